/- Part 1 of the proof: own lemmas, of no statement. -/
import Derived.Orders
import Derived.Still
import Derived.Below
import Derived.Laws.Entries
import Derived.Laws.AppendOwn
import Derived.WalkKit
set_option linter.unusedSimpArgs false
set_option linter.unusedVariables false
set_option linter.defProp false
namespace Go.Av

/-- Abstract values: what a Go value tells, without addresses of what never changes. -/
inductive AV where
  | any
  | sc (v : Value)
  | agg (cs : List AV)
  | tup (vs : List AV)
  | nils
  | lst (sz : Nat) (es : List AV)
  | ipt (e : AV) (off : Nat)
  | ptr (b i off : Nat)
  | row (sz b lo n : Nat)
  | mp (b : Nat)
  | clo (f : FuncId) (caps : List AV)
  | ifc (t : TypeId) (v : AV)
  | box (st : Nat) (e : AV)
  | dpt (t st off : Nat)

abbrev AV.int (n : Int) : AV := .sc (.int .i64 n)
abbrev AV.bool (b : Bool) : AV := .sc (.bool b)
abbrev AV.str (s : ByteArray) : AV := .sc (.string s)

def AV.cells : AV → List AV
  | .agg cs => cs
  | v => [v]

/-- One cell: no aggregate, no tuple. -/
def AV.one : AV → Bool
  | .agg _ | .tup _ | .any | .box _ _ | .dpt _ _ _ => false
  | _ => true

/-- It can lie in memory: cells, each of one. -/
def AV.flat : AV → Bool
  | .tup _ | .any | .box _ _ | .dpt _ _ _ => false
  | _ => true

/-- Where an abstract block lies: its block, the cells of an element, how many elements have room. -/
structure Spot where
  k : Nat
  sz : Nat
  cap : Nat

/-- An abstract block: a row of elements (a variable is a row of one), or a map. -/
inductive Blk where
  | row (sz : Nat) (es : List AV)
  | map (es : List (AV × AV))
  | glob (g : Nat) (cs : List Value)

abbrev Heap := Nat → Option Blk

def upd {β : Type} (f : Nat → β) (i : Nat) (v : β) : Nat → β := fun j => if j = i then v else f j

@[simp] theorem upd_same {β : Type} (f : Nat → β) (i : Nat) (v : β) : upd f i v i = v := by simp [upd]
theorem upd_ne {β : Type} (f : Nat → β) {i j : Nat} (v : β) (h : j ≠ i) : upd f i v j = f j := by simp [upd, h]
theorem upd_ap {β : Type} (f : Nat → β) (i : Nat) (v : β) (j : Nat) : upd f i v j = if j = i then v else f j := rfl

/-- What an abstract value says of a value, in a world: F: the blocks that never change. -/
inductive RV (F : Nat → Prop) (μ : Nat → Option Spot) (w : World) : AV → Value → Prop
  | any (v : Value) : RV F μ w .any v
  | sc (v : Value) (h : v.oneCell' = true) : RV F μ w (.sc v) v
  | agg (cs : List AV) (vs : List Value) (hl : vs.length = cs.length) (h1 : ∀ i (hi : i < cs.length), (cs[i]).one = true)
      (h : ∀ i (hi : i < cs.length) (hj : i < vs.length), RV F μ w cs[i] vs[i]) : RV F μ w (.agg cs) (.agg vs.toArray)
  | tup (cs : List AV) (vs : List Value) (hl : vs.length = cs.length)
      (h : ∀ i (hi : i < cs.length) (hj : i < vs.length), RV F μ w cs[i] vs[i]) : RV F μ w (.tup cs) (.tuple vs.toArray)
  | nils (a : Option Addr) : RV F μ w .nils (.slice a 0 0)
  | lstE (sz : Nat) (a : Option Addr) (cap : Nat) : RV F μ w (.lst sz []) (.slice a 0 cap)
  | lst (sz : Nat) (es : List AV) (k o cap : Nat) (vs : Nat → Value) (hF : F k) (hc : es.length ≤ cap) (hfl : ∀ e ∈ es, e.flat = true)
      (hsz : ∀ i, i < es.length → (vs i).cells.size = sz)
      (hcell : ∀ i j c, i < es.length → (vs i).cells[j]? = some c → w.cell? ⟨k, o + (i * sz + j), none⟩ = some c)
      (h : ∀ i (hi : i < es.length), RV F μ w es[i] (vs i)) : RV F μ w (.lst sz es) (.slice (some ⟨k, o, none⟩) es.length cap)
  | ipt (e : AV) (off k o : Nat) (v : Value) (hF : F k)
      (hcell : ∀ j c, v.cells[j]? = some c → w.cell? ⟨k, o + j, none⟩ = some c)
      (h : RV F μ w e v) : RV F μ w (.ipt e off) (.pointer (some ⟨k, o + off, none⟩))
  | ptr (b i off : Nat) (sp : Spot) (hμ : μ b = some sp) : RV F μ w (.ptr b i off) (.pointer (some ⟨sp.k, i * sp.sz + off, none⟩))
  | rowE (sz b lo : Nat) (a : Option Addr) : RV F μ w (.row sz b lo 0) (.slice a 0 0)
  | row (sz b lo n cap : Nat) (sp : Spot) (hμ : μ b = some sp) (hsz : sp.sz = sz) (hn : n ≤ cap) (hc : lo + cap ≤ sp.cap) :
      RV F μ w (.row sz b lo n) (.slice (some ⟨sp.k, lo * sp.sz, none⟩) n cap)
  | mp (b : Nat) (sp : Spot) (hμ : μ b = some sp) : RV F μ w (.mp b) (.map (some sp.k))
  | clo (f : FuncId) (cs : List AV) (vs : List Value) (hl : vs.length = cs.length)
      (h : ∀ i (hi : i < cs.length) (hj : i < vs.length), RV F μ w cs[i] vs[i]) : RV F μ w (.clo f cs) (.func (.func f) #[] vs.toArray)
  | ifc (t : TypeId) (e : AV) (v : Value) (h : RV F μ w e v) : RV F μ w (.ifc t e) (.iface t v)

section
variable {F F' K : Nat → Prop} {μ μ' : Nat → Option Spot} {w w' : World} {a : AV} {v : Value}

theorem RV.mono (hF : ∀ k, F k → F' k) (hμ : ∀ b sp, μ b = some sp → μ' b = some sp)
    (hw : ∀ k, F k → w'.heap[k]? = w.heap[k]?) (h : RV F μ w a v) : RV F' μ' w' a v := by
  induction h with
  | any v => exact .any v
  | sc v h => exact .sc v h
  | agg cs vs hl h1 _ ih => exact .agg cs vs hl h1 ih
  | tup cs vs hl _ ih => exact .tup cs vs hl ih
  | nils a => exact .nils a
  | lstE sz a cap => exact .lstE sz a cap
  | lst sz es k o cap vs hk hc hfl hsz hcell _ ih =>
    exact .lst sz es k o cap vs (hF k hk) hc hfl hsz (fun i j c hi hj => (World.cell?_of_block (w := w) (a := ⟨k, _, none⟩) (hw k hk)).trans (hcell i j c hi hj)) ih
  | ipt e off k o v hk hcell _ ih =>
    exact .ipt e off k o v (hF k hk) (fun j c hj => (World.cell?_of_block (w := w) (a := ⟨k, _, none⟩) (hw k hk)).trans (hcell j c hj)) ih
  | ptr b i off sp hm => exact .ptr b i off sp (hμ b sp hm)
  | rowE sz b lo a => exact .rowE sz b lo a
  | row sz b lo n cap sp hm hs hn hc => exact .row sz b lo n cap sp (hμ b sp hm) hs hn hc
  | mp b sp hm => exact .mp b sp (hμ b sp hm)
  | clo f cs vs hl _ ih => exact .clo f cs vs hl ih
  | ifc t e v _ ih => exact .ifc t e v ih

/-- Of one cell: so is the value. -/
theorem RV.oneCell (h : RV F μ w a v) (h1 : a.one = true) : v.oneCell' = true := by
  cases h with
  | any => simp [AV.one] at h1
  | sc v h => exact h
  | agg => simp [AV.one] at h1
  | tup => simp [AV.one] at h1
  | _ => rfl

theorem AV.one_flat {a : AV} (h : a.one = true) : a.flat = true := by
  revert h; cases a <;> simp [AV.one, AV.flat]

/-- Cell by cell. -/
theorem RV.cells (h : RV F μ w a v) (ht : a.flat = true) :
    v.cells.size = a.cells.length ∧ (∀ i (hi : i < a.cells.length) (hj : i < v.cells.size), RV F μ w a.cells[i] v.cells[i] ∧ (v.cells[i]).oneCell' = true ∧ (a.cells[i]).one = true) := by
  cases h with
  | any => simp [AV.flat] at ht
  | agg cs vs hl h1 h =>
    refine ⟨by simpa [Value.cells, AV.cells] using hl, fun i hi hj => ?_⟩
    have hj' : i < vs.length := by simpa [Value.cells] using hj
    exact ⟨h i hi hj', (h i hi hj').oneCell (h1 i hi), h1 i hi⟩
  | tup cs vs hl h => simp [AV.flat] at ht
  | sc v h =>
    cases v <;> simp [Value.oneCell'] at h <;> refine ⟨by simp [Value.cells, AV.cells], fun i hi hj => ?_⟩ <;> simp [AV.cells] at hi <;> subst hi <;> exact ⟨.sc _ rfl, rfl, rfl⟩
  | nils a => exact ⟨rfl, fun i hi hj => by simp [AV.cells] at hi; subst hi; exact ⟨.nils a, rfl, rfl⟩⟩
  | lstE sz a cap => exact ⟨rfl, fun i hi hj => by simp [AV.cells] at hi; subst hi; exact ⟨.lstE sz a cap, rfl, rfl⟩⟩
  | lst sz es k o cap vs hk hc hfl hsz hcell h => exact ⟨rfl, fun i hi hj => by simp [AV.cells] at hi; subst hi; exact ⟨.lst sz es k o cap vs hk hc hfl hsz hcell h, rfl, rfl⟩⟩
  | ipt e off k o v hk hcell h => exact ⟨rfl, fun i hi hj => by simp [AV.cells] at hi; subst hi; exact ⟨.ipt e off k o v hk hcell h, rfl, rfl⟩⟩
  | ptr b i off sp hm => exact ⟨rfl, fun i hi hj => by simp [AV.cells] at hi; subst hi; exact ⟨.ptr b _ off sp hm, rfl, rfl⟩⟩
  | rowE sz b lo a => exact ⟨rfl, fun i hi hj => by simp [AV.cells] at hi; subst hi; exact ⟨.rowE sz b lo a, rfl, rfl⟩⟩
  | row sz b lo n cap sp hm hs hn hc => exact ⟨rfl, fun i hi hj => by simp [AV.cells] at hi; subst hi; exact ⟨.row sz b lo n cap sp hm hs hn hc, rfl, rfl⟩⟩
  | mp b sp hm => exact ⟨rfl, fun i hi hj => by simp [AV.cells] at hi; subst hi; exact ⟨.mp b sp hm, rfl, rfl⟩⟩
  | clo f cs vs hl h => exact ⟨rfl, fun i hi hj => by simp [AV.cells] at hi; subst hi; exact ⟨.clo f cs vs hl h, rfl, rfl⟩⟩
  | ifc t e v h => exact ⟨rfl, fun i hi hj => by simp [AV.cells] at hi; subst hi; exact ⟨.ifc t e v h, rfl, rfl⟩⟩

/-- Elements that lie in an array of cells, each in its place. -/
def LiesIn (F : Nat → Prop) (μ : Nat → Option Spot) (w : World) (sz : Nat) (es : List AV) (arr : Array Value) : Prop :=
  ∃ vs : Nat → Value, (∀ i, i < es.length → (vs i).cells.size = sz) ∧ (∀ i j c, i < es.length → (vs i).cells[j]? = some c → arr[i * sz + j]? = some c) ∧
    (∀ i (hi : i < es.length), RV F μ w es[i] (vs i) ∧ es[i].flat = true)

/-- An abstract block, and what lies in memory. -/
def BlkRel (F : Nat → Prop) (μ : Nat → Option Spot) (w : World) (b : Nat) : Blk → Prop
  | .row sz es =>
    (es = [] ∧ μ b = none) ∨
    ∃ (sp : Spot) (arr : Array Value) (e : TypeId), μ b = some sp ∧ w.heap[sp.k]? = some (.cells arr e (0, 0)) ∧ arr.size = sp.cap * sp.sz ∧ sp.sz = sz ∧
      es.length ≤ sp.cap ∧ sp.cap ≤ maxLen ∧ LiesIn F μ w sz es arr
  | .map es => ∃ (sp : Spot) (ents : Array MapEntry) (clock : Nat), μ b = some sp ∧ w.heap[sp.k]? = some (.map ents clock) ∧ ents.size = es.length ∧
      ∀ i (hi : i < es.length) (hj : i < ents.size), RV F μ w (es[i]).1 (ents[i]).key ∧ RV F μ w (es[i]).2 (ents[i]).val
  | .glob g cs => μ b = none ∧ F g ∧ ∃ e fr, w.heap[g]? = some (.cells cs.toArray e fr)

/-- The abstract heap stands for what lies in memory; K: blocks of others, which are let alone. -/
structure Inv (F K : Nat → Prop) (μ : Nat → Option Spot) (σ : Heap) (w : World) : Prop where
  blk : ∀ b o, σ b = some o → BlkRel F μ w b o
  inj : ∀ b b' sp sp', σ b ≠ none → σ b' ≠ none → μ b = some sp → μ b' = some sp' → sp.k = sp'.k → b = b'
  nof : ∀ b sp, σ b ≠ none → μ b = some sp → ¬ F sp.k ∧ ¬ K sp.k
  sep : ∀ k, K k → ¬ F k
  bdF : ∀ k, F k → k < w.heap.size
  bdK : ∀ k, K k → k < w.heap.size
  fin : ∃ N, ∀ b, N ≤ b → μ b = none ∧ σ b = none

/-- How the world goes on: what never changes has not changed. -/
structure Ext (F K : Nat → Prop) (μ : Nat → Option Spot) (w : World) (F' : Nat → Prop) (μ' : Nat → Option Spot) (w' : World) : Prop where
  os : w'.os = w.os
  tape : w'.tape = w.tape
  output : w'.output = w.output
  dr : μ 0 = some ⟨0, 0, 0⟩ → w.drawn ≤ w'.drawn
  size : w.heap.size ≤ w'.heap.size
  fz : ∀ k, F k → F' k
  mu : ∀ b sp, μ b = some sp → μ' b = some sp
  keep : ∀ k, F k ∨ K k → w'.heap[k]? = w.heap[k]?

theorem Ext.refl (F K : Nat → Prop) (μ : Nat → Option Spot) (w : World) : Ext F K μ w F μ w :=
  ⟨rfl, rfl, rfl, fun _ => Nat.le_refl _, Nat.le_refl _, fun _ h => h, fun _ _ h => h, fun _ _ => rfl⟩

theorem Ext.trans {F1 F2 : Nat → Prop} {μ1 μ2 : Nat → Option Spot} {w1 w2 : World} (h : Ext F K μ w F1 μ1 w1) (k : Ext F1 K μ1 w1 F2 μ2 w2) : Ext F K μ w F2 μ2 w2 :=
  ⟨k.os.trans h.os, k.tape.trans h.tape, k.output.trans h.output, fun e => Nat.le_trans (h.dr e) (k.dr (h.mu _ _ e)), Nat.le_trans h.size k.size, fun i hi => k.fz i (h.fz i hi), fun b sp hb => k.mu b sp (h.mu b sp hb),
    fun i hi => (k.keep i (hi.imp (h.fz i) id)).trans (h.keep i hi)⟩

theorem RV.ext (h : Ext F K μ w F' μ' w') (hv : RV F μ w a v) : RV F' μ' w' a v :=
  hv.mono h.fz h.mu fun k hk => h.keep k (.inl hk)

theorem LiesIn.ext {sz : Nat} {es : List AV} {arr : Array Value} (h : Ext F K μ w F' μ' w') (hl : LiesIn F μ w sz es arr) : LiesIn F' μ' w' sz es arr :=
  let ⟨vs, h1, h2, h3⟩ := hl
  ⟨vs, h1, h2, fun i hi => ⟨(h3 i hi).1.ext h, (h3 i hi).2⟩⟩

theorem Ext.drew : Ext F K μ w F μ { w with drawn := w.drawn + 1 } :=
  ⟨rfl, rfl, rfl, fun _ => Nat.le_succ _, Nat.le_refl _, fun _ h => h, fun _ _ h => h, fun _ _ => rfl⟩

/-- A block's relation in a later world in which that block has not changed. -/
theorem BlkRel.ext (he : Ext F K μ w F' μ' w') {b : Nat} {o : Blk} (h : BlkRel F μ w b o)
    (hk : ∀ sp, μ b = some sp → w'.heap[sp.k]? = w.heap[sp.k]?) (hn : μ b = none → μ' b = none) : BlkRel F' μ' w' b o := by
  cases o with
  | row sz es =>
    rcases h with h | ⟨sp, arr, e, h1, h2, h3, h4, h5, h6, h7⟩
    · exact .inl ⟨h.1, hn h.2⟩
    · exact .inr ⟨sp, arr, e, he.mu b sp h1, (hk sp h1).trans h2, h3, h4, h5, h6, h7.ext he⟩
  | map es =>
    obtain ⟨sp, ents, clock, h1, h2, h3, h4⟩ := h
    exact ⟨sp, ents, clock, he.mu b sp h1, (hk sp h1).trans h2, h3, fun i hi hj => ⟨(h4 i hi hj).1.ext he, (h4 i hi hj).2.ext he⟩⟩
  | glob g cs =>
    exact ⟨hn h.1, he.fz g h.2.1, let ⟨e, fr, h3⟩ := h.2.2; ⟨e, fr, (he.keep g (.inl h.2.1)).trans h3⟩⟩

theorem Inv.drew {σ : Heap} (h : Inv F K μ σ w) : Inv F K μ σ { w with drawn := w.drawn + 1 } :=
  ⟨fun b o hb => (h.blk b o hb).ext (K := K) Ext.drew (fun _ _ => rfl) id, h.inj, h.nof, h.sep, h.bdF, h.bdK, h.fin⟩

end

theorem Addr.add_none (k o n : Nat) : (⟨k, o, none⟩ : Addr).add n = ⟨k, o + n, none⟩ := by
  unfold Addr.add; split <;> simp_all

end Go.Av

namespace Go.Av

abbrev Env := Nat → AV

inductive Opd where
  | t (n : Nat)
  | b (n : Nat)
  | c (v : AV)

def Opd.ev (env : Env) : Opd → AV
  | .t n => env n
  | .b n => (match env n with | .box st _ => .dpt n st 0 | _ => .any)
  | .c v => v

/-- The kinds of a plain type's cells. -/
inductive Leaf where
  | int (k : IntKind) | bool | str
  deriving DecidableEq

inductive IOp where
  | mov (x : Opd)
  | pick (c a b : Opd)
  | bin (op : BinOp) (x y : Opd)
  | eqb (neg : Bool) (x y : Opd)
  | eql (neg : Bool) (ls : List Leaf) (x y : Opd)
  | isnil (fn neg : Bool) (x : Opd)
  | un (op : UnOp) (x : Opd)
  | cvi (k : IntKind) (x : Opd)
  | cvs (x : Opd)
  | build (z : AV) (parts : List (Nat × Nat × Opd))
  | part (off sz : Nat) (ag : Bool) (x : Opd)
  | idx (len sz : Nat) (ag : Bool) (x i : Opd)
  | sidx (x i : Opd)
  | ext (i : Nat) (x : Opd)
  | len (x : Opd)
  | slen (x : Opd)
  | const (v : AV)
  | slc (sz : Nat) (x : Opd) (lo hi : Option Opd)
  | slc0 (x h m : Opd)
  | sslc (x : Opd) (lo hi : Option Opd)
  | load (root : Option Nat) (sz : Nat) (ag : Bool) (p : Opd)
  | faddr (root : Option Nat) (off : Nat) (p : Opd)
  | iaddrA (root : Option Nat) (len sz : Nat) (p i : Opd)
  | iaddrS (sz : Nat) (s i : Opd)
  | mkf (f : FuncId) (caps : List Opd)
  | nilc (x : Opd)
  | mx (x : Opd) (ys : List Opd)
  | mn (x : Opd) (ys : List Opd)
  | bslice (sz : Nat) (els : List Opd)
  | nbox (ix : Nat) (z : AV)
  | bbox (ix : Nat) (x : Opd)
  -- what turns a box of the frame, or the heap
  | store (root : Option Nat) (sz : Nat) (p v : Opd)
  | new (z : AV)
  | hbox (x : Opd)
  | bsliceO (sz : Nat) (els : List Opd)
  | app (sz bytes : Nat) (s x : Opd)
  | mks (sz bytes : Nat) (z : AV) (l c : Opd)
  | cpy (sz : Nat) (d s : Opd)
  | clr (z : AV) (s : Opd)
  | snil (neg : Bool) (x : Opd)
  | call (f : Opd) (args : List Opd)
  | callq (f : Opd) (args : List Opd)

/-- Cells laid over others. -/
def over {α : Type} (cs : List α) (off : Nat) (new : List α) : List α := cs.take off ++ new ++ cs.drop (off + new.length)

def AV.part (off sz : Nat) (ag : Bool) : AV → Option AV
  | .agg cs => if ag then (if off + sz ≤ cs.length then some (.agg ((cs.drop off).take sz)) else none) else cs[off]?
  | v => if off = 0 ∧ ag = false ∧ v.one = true then some v else none

def AV.setPart (off : Nat) (cs' : List AV) : AV → Option AV
  | .agg cs => if off + cs'.length ≤ cs.length then some (.agg (over cs off cs')) else none
  | v => if off = 0 ∧ v.one = true then (match cs' with | [c] => some c | _ => none) else none

def fillA : List AV → List (Nat × Nat × AV) → Option (List AV)
  | cs, [] => some cs
  | cs, (off, sz, v) :: rest =>
    if v.flat = true ∧ v.cells.length = sz ∧ off + sz ≤ cs.length then fillA (over cs off v.cells) rest else none

def intOp (k : IntKind) (a b : Int) : BinOp → Option Value
  | .add => some (.int k (k.wrap (a + b)))
  | .sub => some (.int k (k.wrap (a - b)))
  | .mul => some (.int k (k.wrap (a * b)))
  | .quo => if b = 0 then none else some (.int k (k.wrap (a.tdiv b)))
  | .rem => if b = 0 then none else some (.int k (a.tmod b))
  | .eql => some (.bool (a == b))
  | .neq => some (.bool (a != b))
  | .lss => some (.bool (a < b))
  | .leq => some (.bool (a ≤ b))
  | .gtr => some (.bool (a > b))
  | .geq => some (.bool (a ≥ b))
  | .and => some (.int k (k.wrap ((BitVec.ofInt k.bits a &&& BitVec.ofInt k.bits b).toNat : Int)))
  | .or => some (.int k (k.wrap ((BitVec.ofInt k.bits a ||| BitVec.ofInt k.bits b).toNat : Int)))
  | .xor => some (.int k (k.wrap ((BitVec.ofInt k.bits a ^^^ BitVec.ofInt k.bits b).toNat : Int)))
  | _ => none

def shOp (k : IntKind) (a b : Int) : BinOp → Option Value
  | .shl => if b < 0 then none else some (.int k (k.wrap (a * 2 ^ (min b.toNat k.bits))))
  | .shr => if b < 0 then none else some (.int k (a.fdiv (2 ^ (min b.toNat k.bits))))
  | _ => none

def strOp (a b : ByteArray) : BinOp → Option Value
  | .add => if ((a.size + b.size : Nat) : Int) > IntKind.i64.max then none else some (.string (a ++ b))
  | .eql => some (.bool (a.toList == b.toList))
  | .neq => some (.bool !(a.toList == b.toList))
  | .lss => some (.bool (Op.bytesLess a.toList b.toList))
  | .gtr => some (.bool !(Op.bytesLess a.toList b.toList || a.toList == b.toList))
  | _ => none

def isSh : BinOp → Bool
  | .shl | .shr => true
  | _ => false

def binV (op : BinOp) : Value → Value → Option Value
  | .int k a, .int k' b => if isSh op then shOp k a b op else if k = k' then intOp k a b op else none
  | .string a, .string b => strOp a b op
  | _, _ => none

def binA (op : BinOp) : AV → AV → Option AV
  | .sc x, .sc y => (binV op x y).map .sc
  | _, _ => none

def eqLeaf : Leaf → AV → AV → Option Bool
  | .int k, .sc (.int j a), .sc (.int l b) => if j = k ∧ l = k then some (a == b) else none
  | .bool, .sc (.bool a), .sc (.bool b) => some (a == b)
  | .str, .sc (.string a), .sc (.string b) => some (a == b)
  | _, _, _ => none

def eqLs : List Leaf → List AV → List AV → Option Bool
  | [], [], [] => some true
  | l :: ls, x :: xs, y :: ys => (eqLeaf l x y).bind fun b => (eqLs ls xs ys).map fun c => b && c
  | _, _, _ => none

def eqAgg (ls : List Leaf) : AV → AV → Option Bool
  | .agg xs, .agg ys => eqLs ls xs ys
  | _, _ => none

def asI : AV → Option Int
  | .sc (.int _ n) => some n
  | _ => none

def asB : AV → Option Bool
  | .sc (.bool b) => some b
  | _ => none

def lenA : AV → Option Int
  | .lst _ es => some es.length
  | .nils => some 0
  | .row _ _ _ n => some n
  | _ => none

def slenA : AV → Option Int
  | .sc (.string s) => some s.size
  | _ => none

def nilA (fn : Bool) : AV → Option Bool
  | .sc (.pointer none) => if fn then none else some true
  | .sc .nilFunc => if fn then some true else none
  | .ptr _ _ _ => if fn then none else some false
  | .ipt _ _ => if fn then none else some false
  | .clo _ _ => if fn then some false else none
  | _ => none

/-- Bounds of a slice expression, of a length (no third index). -/
def bndA (len : Nat) (lo hi : Option AV) : Option (Nat × Nat) :=
  (match hi with | none => some (len : Int) | some v => asI v).bind fun h =>
  (match lo with | none => some 0 | some v => asI v).bind fun l =>
  if 0 ≤ h ∧ h ≤ len ∧ 0 ≤ l ∧ l ≤ h then some (l.toNat, h.toNat) else none

def slcA (sz : Nat) (x : AV) (lo hi : Option AV) : Option AV :=
  match x with
  | .lst sz' es => if sz' = sz then (bndA es.length lo hi).map fun p => .lst sz ((es.drop p.1).take (p.2 - p.1)) else none
  | .nils => (bndA 0 lo hi).map fun _ => .nils
  | .row sz' b o n => if sz' = sz then (bndA n lo hi).map fun p => .row sz b (o + p.1) (p.2 - p.1) else none
  | _ => none

def rowOf : Option Blk → Option (Nat × List AV)
  | some (.row sz es) => some (sz, es)
  | _ => none

/-- What is in a box of the frame. -/
def boxOf (st : Nat) : AV → Option AV
  | .box st' e => if st' = st then some e else none
  | _ => none

def loadA (σ : Heap) (sz : Nat) (ag : Bool) : AV → Option AV
  | .ipt e off => e.part off sz ag
  | .ptr b i off => (rowOf (σ b)).bind fun r => (r.2[i]?).bind fun e => e.part off sz ag
  | _ => none

/-- .. out of the frame's box t. -/
def loadB (t : Nat) (box : AV) (sz : Nat) (ag : Bool) : AV → Option AV
  | .dpt t' st off => if t' = t then (boxOf st box).bind fun e => e.part off sz ag else none
  | _ => none

def maxI : Int → List Int → Int
  | x, [] => x
  | x, y :: ys => maxI (if y > x then y else x) ys
def minI : Int → List Int → Int
  | x, [] => x
  | x, y :: ys => minI (if y < x then y else x) ys

def i64s : List AV → Option (List Int)
  | [] => some []
  | .sc (.int .i64 n) :: r => (i64s r).map (n :: ·)
  | _ => none

def addA (n : Nat) : AV → Option AV
  | .ipt e o => some (.ipt e (o + n))
  | .ptr b i o => some (.ptr b i (o + n))
  | _ => none

/-- .. within the frame's box t. -/
def addB (t : Nat) (box : AV) (n : Nat) : AV → Option AV
  | .dpt t' st o => if t' = t then (boxOf st box).map fun _ => .dpt t' st (o + n) else none
  | _ => none

def notA : AV → Option AV
  | .sc (.bool b) => some (.bool !b)
  | _ => none
def negA : AV → Option AV
  | .sc (.int k n) => some (.sc (.int k (k.wrap (0 - n))))
  | _ => none
def cviA (k : IntKind) : AV → Option AV
  | .sc (.int _ n) => some (.sc (.int k (k.wrap n)))
  | _ => none
def cvsA : AV → Option AV
  | .sc (.string s) => some (.sc (.string s))
  | _ => none
def partA (off sz : Nat) (ag : Bool) : AV → Option AV
  | .agg cs => AV.part off sz ag (.agg cs)
  | _ => none
def sidxA (i : Int) : AV → Option AV
  | .sc (.string s) => if h : 0 ≤ i ∧ i.toNat < s.size then some (.sc (.int .u8 (s[i.toNat]'h.2).toNat)) else none
  | _ => none
def extA (i : Nat) : AV → Option AV
  | .tup vs => vs[i]?
  | _ => none
def slc0A (h m : AV) : AV → Option AV
  | .lst _ _ => (asI h).bind fun h => (asI m).bind fun m => if h = 0 ∧ m = 0 then some .nils else none
  | .nils => (asI h).bind fun h => (asI m).bind fun m => if h = 0 ∧ m = 0 then some .nils else none
  | .row _ _ _ _ => (asI h).bind fun h => (asI m).bind fun m => if h = 0 ∧ m = 0 then some .nils else none
  | _ => none
def sslcA (lo hi : Option AV) : AV → Option AV
  | .sc (.string s) => (bndA s.size lo hi).map fun p => .str (s.extract p.1 p.2)
  | _ => none
def iaddrSA (sz : Nat) (i : Int) : AV → Option AV
  | .lst sz' es => if 0 ≤ i ∧ i < es.length ∧ sz' = sz then (es[i.toNat]?).map fun e => .ipt e 0 else none
  | .row sz' b lo n => if 0 ≤ i ∧ i < n ∧ sz' = sz then some (.ptr b (lo + i.toNat) 0) else none
  | _ => none
def nilcA : AV → Option AV
  | .ipt e o => some (.ipt e o)
  | .ptr b i o => some (.ptr b i o)
  | .clo f cs => some (.clo f cs)
  | _ => none
def headI (f : Int → List Int → Int) : List Int → Option AV
  | a :: r => some (.int (f a r))
  | [] => none

/-- What an operation that leaves the heap and the frame's boxes alone yields. -/
def evalI (env : Env) (nv : Nat) (σ : Heap) : IOp → Option AV
  | .mov x => some (x.ev env)
  | .pick c a b => (asB (c.ev env)).map fun t => if t then a.ev env else b.ev env
  | .bin op x y => binA op (x.ev env) (y.ev env)
  | .eqb neg x y => (asB (x.ev env)).bind fun a => (asB (y.ev env)).map fun b => .bool ((a == b) != neg)
  | .eql neg ls x y => (eqAgg ls (x.ev env) (y.ev env)).map fun b => .bool (b != neg)
  | .isnil fn neg x => (nilA fn (x.ev env)).map fun b => .bool (b != neg)
  | .un .not x => notA (x.ev env)
  | .un .neg x => negA (x.ev env)
  | .cvi k x => cviA k (x.ev env)
  | .cvs x => cvsA (x.ev env)
  | .build z parts => (fillA z.cells (parts.map fun p => (p.1, p.2.1, p.2.2.ev env))).map .agg
  | .part off sz ag x => partA off sz ag (x.ev env)
  | .idx len sz ag x i => (asI (i.ev env)).bind fun i => if 0 ≤ i ∧ i < len then partA (i.toNat * sz) sz ag (x.ev env) else none
  | .sidx x i => (asI (i.ev env)).bind fun i => sidxA i (x.ev env)
  | .ext i x => extA i (x.ev env)
  | .len x => (lenA (x.ev env)).map .int
  | .slen x => (slenA (x.ev env)).map .int
  | .const v => some v
  | .slc sz x lo hi => slcA sz (x.ev env) (lo.map (·.ev env)) (hi.map (·.ev env))
  | .slc0 x h m => slc0A (h.ev env) (m.ev env) (x.ev env)
  | .sslc x lo hi => sslcA (lo.map (·.ev env)) (hi.map (·.ev env)) (x.ev env)
  | .load none sz ag p => loadA σ sz ag (p.ev env)
  | .load (some t) sz ag p => loadB t (env t) sz ag (p.ev env)
  | .faddr none off p => addA off (p.ev env)
  | .faddr (some t) off p => addB t (env t) off (p.ev env)
  | .iaddrA none len sz p i => (asI (i.ev env)).bind fun i => if 0 ≤ i ∧ i < len then addA (i.toNat * sz) (p.ev env) else none
  | .iaddrA (some t) len sz p i => (asI (i.ev env)).bind fun i => if 0 ≤ i ∧ i < len then addB t (env t) (i.toNat * sz) (p.ev env) else none
  | .iaddrS sz s i => (asI (i.ev env)).bind fun i => iaddrSA sz i (s.ev env)
  | .mkf f caps => if (caps.map (·.ev env)).all AV.one then some (.clo f (caps.map (·.ev env))) else none
  | .nilc x => nilcA (x.ev env)
  | .mx x ys => (i64s ((x :: ys).map (·.ev env))).bind (headI maxI)
  | .mn x ys => (i64s ((x :: ys).map (·.ev env))).bind (headI minI)
  | .bslice sz els => (match els.map (·.ev env) with
      | [] => some .nils
      | es => if es.all (fun e => e.flat && (e.cells.length == sz)) then some (.lst sz es) else none)
  | .nbox ix z => some (.box (nv + ix) z)
  | .bbox ix x => if (x.ev env).flat then some (.box (nv + ix) (x.ev env)) else none
  | _ => none

structure IOper where
  dst : Option Nat
  op : IOp
  g : Option (Nat × Bool)

inductive ICode where
  | skip
  | region (m : Nat) (ops : List IOper)
  | seq (a b : ICode)
  | cond (c : Opd) (a b : ICode)
  | block (id : Nat) (a : ICode)
  | loop (a : ICode)
  | exit (id : Nat)
  | ret

/-! ### From the program's code -/

def ofV1 : Value → Option AV
  | .agg _ | .tuple _ => none
  | .slice none 0 0 => some .nils
  | .slice _ _ _ => none
  | .func (.func f) ⟨[]⟩ ⟨[]⟩ => some (.clo f [])
  | v => some (.sc v)

def ofV : Value → Option AV
  | .agg ⟨cs⟩ => (cs.mapM ofV1).map .agg
  | .tuple ⟨[]⟩ => some (.tup [])
  | v => ofV1 v

section
variable (P : Program)

def tyAgg (t : TypeId) : Option Bool :=
  match P.underlying t with
  | some (.struct _) | some (.array _ _) => some true
  | some _ => some false
  | none => none

def tySize (t : TypeId) : Option Nat := (P.info? t).map (·.size)

def tyZero (t : TypeId) : Option AV :=
  match P.info? t with
  | some i => (match i.zero with | some z => (ofV z).bind fun a => if a.flat && a.cells.length == i.size then some a else none | none => none)
  | none => none

def leavesFs (lv : TypeId → Option (List Leaf)) : Nat → List Field → Option (List Leaf)
  | _, [] => some []
  | off, f :: fs => (lv f.type).bind fun l =>
    if f.offset = off ∧ tySize P f.type = some l.length ∧ f.name ≠ "_" then (leavesFs lv (off + l.length) fs).map (l ++ ·) else none

def leaves : Nat → TypeId → Option (List Leaf)
  | 0, _ => none
  | d + 1, t =>
    match P.underlying t with
    | some .bool => some [.bool]
    | some (.int k) => some [.int k]
    | some .string => some [.str]
    | some (.array n e) =>
      (leaves d e).bind fun l => if tySize P e = some l.length then some (List.replicate n l).flatten else none
    | some (.struct fs) => if P.stoodInHeld t then none else leavesFs P (leaves d) 0 fs.toList
    | _ => none

variable (B : List Nat) (ops : Array Oper)

def opd : Operand → Option Opd
  | .tmp t => some (if B.contains t then .b t else .t t)
  | .const v => (ofV v).map .c
  | .global g => some (.c (.sc (.pointer (some ⟨g, 0, none⟩))))
  | .func f => some (.c (.clo f []))

def opdO : Option Operand → Option (Option Opd)
  | none => some none
  | some x => (opd B x).map some

/-- The box of the frame that a pointer leads into, by the region's text. -/
def rootOf : Nat → Operand → Option Nat
  | 0, _ => none
  | n + 1, .tmp t =>
    if B.contains t then some t else
    match ops.toList.find? (fun o => o.dst == some t) with
    | some o => (match o.op with | .fieldAddr _ p _ => rootOf n p | .indexAddr _ p _ => rootOf n p | _ => none)
    | none => none
  | _, _ => none

def compBuild (places : Nat → Option (Nat × Nat)) : List (Nat × Operand) → Option (List (Nat × Nat × Opd))
  | [] => some []
  | (i, x) :: r => (places i).bind fun p => (opd B x).bind fun y => (compBuild places r).map ((p.1, p.2, y) :: ·)

def structPlaces (fs : Array Field) : Option (List (Nat × Nat)) := fs.toList.mapM fun f => (P.info? f.type).map fun i => (f.offset, i.size)

def ownd (own : List Nat) : Option Nat → Bool
  | some d => own.contains d
  | none => false

def comp1 (own : List Nat) (q : Bool) (ix : Nat) (o : Oper) : Option IOp :=
  match o.op with
  | .move x | .assign x => (opd B x).map .mov
  | .pick c a b => (opd B c).bind fun c => (opd B a).bind fun a => (opd B b).map fun b => .pick c a b
  | .binOp op t x y _ =>
    (match y with
    | .const (.pointer none) => if op == .eql || op == .neq then (match P.underlying t with | some (.pointer _) => (opd B x).map fun x => .isnil false (op == .neq) x | _ => none) else none
    | .const .nilFunc => if op == .eql || op == .neq then (match P.underlying t with | some (.func _ _ _) => (opd B x).map fun x => .isnil true (op == .neq) x | _ => none) else none
    | .const (.slice none 0 0) => if op == .eql || op == .neq then (match P.underlying t with | some (.slice _) => (opd B x).map fun x => .snil (op == .neq) x | _ => none) else none
    | y =>
    (opd B x).bind fun x => (opd B y).bind fun y =>
    match P.underlying t with
    | some (.int _) => some (.bin op x y)
    | some .string => some (.bin op x y)
    | some .bool => if op == .eql then some (.eqb false x y) else if op == .neq then some (.eqb true x y) else none
    | some (.struct _) | some (.array _ _) =>
      if (op == .eql || op == .neq) && !(P.eqGuardType P.depth t) then (leaves P 20 t).map fun ls => .eql (op == .neq) ls x y else none
    | _ => none)
  | .unOp op _ x => if op == .not || op == .neg then (opd B x).map fun x => .un op x else none
  | .convert s d x =>
    (match P.underlying s, P.underlying d with
     | some (.int _), some (.int k) => (opd B x).map fun x => .cvi k x
     | some .string, some .string => (opd B x).map fun x => .cvs x
     | _, _ => none)
  | .build t parts =>
    (match P.underlying t with
     | some (.struct fs) =>
       (structPlaces P fs).bind fun ps => (tyZero P t).bind fun z => (compBuild B (ps[·]?) parts.toList).map fun q => .build z q
     | some (.array _ e) =>
       (tySize P e).bind fun n => (tyZero P t).bind fun z => (compBuild B (fun i => some (i * n, n)) parts.toList).map fun q => .build z q
     | _ => none)
  | .buildSlice t n parts =>
    (match P.underlying t with
     | some (.slice e) =>
       (tySize P e).bind fun sz => (tyZero P e).bind fun _ => (parts.toList.mapM fun p => opd B p.2).bind fun els =>
       if parts.toList.map (·.1) = List.range n ∧ 0 < sz ∧ n * sz ≤ 16777216 then
         some (if ownd own o.dst then .bsliceO sz els else .bslice sz els)
       else none
     | _ => none)
  | .field t x f =>
    (match P.underlying t with
     | some (.struct fs) => (fs[f]?).bind fun f => (tySize P f.type).bind fun sz => (tyAgg P f.type).bind fun ag => (opd B x).map fun x => .part f.offset sz ag x
     | _ => none)
  | .index t x i =>
    (match P.underlying t with
     | some (.array n e) => (tySize P e).bind fun sz => (tyAgg P e).bind fun ag => (opd B x).bind fun x => (opd B i).map fun i => .idx n sz ag x i
     | some .string => (opd B x).bind fun x => (opd B i).map fun i => .sidx x i
     | _ => none)
  | .extract x i => (opd B x).map fun x => .ext i x
  | .slice t x lo hi none =>
    (match P.underlying t with
     | some (.slice e) => (tySize P e).bind fun sz => (opd B x).bind fun x => (opdO B lo).bind fun lo => (opdO B hi).map fun hi => .slc sz x lo hi
     | some .string => (opd B x).bind fun x => (opdO B lo).bind fun lo => (opdO B hi).map fun hi => .sslc x lo hi
     | _ => none)
  | .slice t x none (some h) (some m) =>
    (match P.underlying t with
     | some (.slice e) => (tySize P e).bind fun _ => (opd B x).bind fun x => (opd B h).bind fun h => (opd B m).map fun m => .slc0 x h m
     | _ => none)
  | .load t p => (tySize P t).bind fun sz => (tyAgg P t).bind fun ag => (opd B p).map fun q => .load (rootOf B ops 20 p) sz ag q
  | .store t p v => (tySize P t).bind fun sz => if o.dst.isSome then none else (opd B p).bind fun q => (opd B v).map fun v => .store (rootOf B ops 20 p) sz q v
  | .fieldAddr t p f =>
    (match P.underlying t with
     | some (.struct fs) => (fs[f]?).bind fun f => (tySize P f.type).bind fun sz => if sz = 0 then none else (opd B p).map fun q => .faddr (rootOf B ops 20 p) f.offset q
     | _ => none)
  | .indexAddr t p i =>
    (match P.underlying t with
     | some (.array n e) => (tySize P e).bind fun sz => (opd B p).bind fun q => (opd B i).map fun i => .iaddrA (rootOf B ops 20 p) n sz q i
     | some (.slice e) => (tySize P e).bind fun sz => (opd B p).bind fun p => (opd B i).map fun i => .iaddrS sz p i
     | _ => none)
  | .alloc t => (tyZero P t).map fun z => (match o.dst with | some d => if B.contains d then .nbox ix z else .new z | none => .new z)
  | .box _ x => (opd B x).map fun x => (match o.dst with | some d => if B.contains d then .bbox ix x else .hbox x | none => .hbox x)
  | .makeFunc (.func f) ⟨[]⟩ caps => (caps.toList.mapM (opd B)).map fun cs => .mkf f cs
  | .nilCheck x => (opd B x).map .nilc
  | .makeSlice t l c =>
    (match P.underlying t with
     | some (.slice e) => (P.info? e).bind fun i => (tyZero P e).bind fun z => (opd B l).bind fun l => (opd B c).map fun c => .mks i.size i.bytes z l c
     | _ => none)
  | .call { callee := .value f, args, .. } => (opd B f).bind fun f => (args.toList.mapM (opd B)).map fun as => if q then .callq f as else .call f as
  | .call { callee := .builtin .len, args := ⟨[x]⟩, argTypes := ⟨[t]⟩ } =>
    (match P.underlying t with
     | some .string => (opd B x).map .slen
     | some (.slice _) => (opd B x).map .len
     | some (.array n _) => some (.const (.int n))
     | _ => none)
  | .call { callee := .builtin .append, args := ⟨[s, x]⟩, argTypes := ⟨[t, u]⟩ } =>
    if t = u then
    (match P.underlying t with
     | some (.slice e) => (P.info? e).bind fun i => (tyZero P e).bind fun z => if 0 < i.size ∧ z.flat = true then (opd B s).bind fun s => (opd B x).map fun x => .app i.size i.bytes s x else none
     | _ => none)
    else none
  | .call { callee := .builtin .copy, args := ⟨[d, s]⟩, argTypes := ⟨[t, u]⟩ } =>
    if t = u then
    (match P.underlying t with
     | some (.slice e) => (P.info? e).bind fun i => (opd B d).bind fun d => (opd B s).map fun s => .cpy i.size d s
     | _ => none)
    else none
  | .call { callee := .builtin .clear, args := ⟨[x]⟩, argTypes := ⟨[t]⟩ } =>
    (match P.underlying t with
     | some (.slice e) => (tyZero P e).bind fun z => (opd B x).map fun x => .clr z x
     | _ => none)
  | .call { callee := .builtin .max, args := ⟨x :: ys⟩, .. } => (opd B x).bind fun x => (ys.mapM (opd B)).map fun ys => .mx x ys
  | .call { callee := .builtin .min, args := ⟨x :: ys⟩, .. } => (opd B x).bind fun x => (ys.mapM (opd B)).map fun ys => .mn x ys
  | _ => none

def isNewOp : Op → Bool
  | .alloc _ | .box _ _ => true
  | _ => false

/-- Operands stand below the number of temporaries; where boxes of the frame are written, nothing else is. -/
def dstOk (n : Nat) (o : Oper) : Bool :=
  match o.dst with
  | none => true
  | some d => d < n && (!B.contains d || (isNewOp o.op && o.guard.isNone))

def compG : Option (Nat × Bool) → Option (Option (Nat × Bool))
  | none => some none
  | some (j, b) => ((ops[j]?).bind (·.dst)).bind fun d => if B.contains d then none else some (some (d, b))

def compOps (n : Nat) (own : List Nat) (q : Bool) : Nat → List Oper → Option (List IOper)
  | _, [] => some []
  | ix, o :: r => if dstOk B n o then (comp1 P B ops own q ix o).bind fun p => (compG B ops o.guard).bind fun g => (compOps n own q (ix + 1) r).map (⟨o.dst, p, g⟩ :: ·) else none

end

/-! ### Which operations may change places -/

def Opd.rd : Opd → List Nat
  | .t n | .b n => [n]
  | .c _ => []

def oRd : Option Opd → List Nat
  | some x => x.rd
  | none => []

def lRd (l : List Opd) : List Nat := l.flatMap Opd.rd

/-- What an operation reads of the frame (but for its guard). -/
def IOp.rd : IOp → List Nat
  | .mov x | .isnil _ _ x | .snil _ x | .un _ x | .cvi _ x | .cvs x | .part _ _ _ x | .ext _ x | .len x | .slen x | .nilc x | .bbox _ x | .hbox x => x.rd
  | .pick a b c | .slc0 a b c => a.rd ++ b.rd ++ c.rd
  | .bin _ x y | .eqb _ x y | .eql _ _ x y | .idx _ _ _ x y | .sidx x y | .iaddrS _ x y | .app _ _ x y | .mks _ _ _ x y | .cpy _ x y => x.rd ++ y.rd
  | .build _ ps => ps.flatMap fun p => p.2.2.rd
  | .const _ | .nbox _ _ | .new _ => []
  | .slc _ x l h | .sslc x l h => x.rd ++ oRd l ++ oRd h
  | .load r _ _ p => p.rd ++ r.toList
  | .faddr r _ p => p.rd ++ r.toList
  | .iaddrA r _ _ p i => p.rd ++ i.rd ++ r.toList
  | .mkf _ cs | .bslice _ cs | .bsliceO _ cs => lRd cs
  | .mx x ys | .mn x ys => x.rd ++ lRd ys
  | .store r _ p v => p.rd ++ v.rd ++ r.toList
  | .clr _ x => x.rd
  | .call f as | .callq f as => f.rd ++ lRd as

/-- 0: of the frame alone; 1: it reads the heap; 2, 3: it may turn it. -/
def IOp.cls : IOp → Nat
  | .load none _ _ _ | .callq _ _ => 1
  | .store none _ _ _ | .call _ _ | .snil _ _ => 2
  | .new _ | .hbox _ | .bsliceO _ _ | .app _ _ _ _ | .mks _ _ _ _ _ | .cpy _ _ _ | .clr _ _ => 3
  | _ => 0

def IOper.rd (o : IOper) : List Nat := o.op.rd ++ (match o.g with | some (j, _) => [j] | none => [])
def IOper.wr (o : IOper) : List Nat := o.dst.toList ++ (match o.op with | .store (some r) _ _ _ => [r] | _ => [])

def IOper.apart (x y : IOper) : Bool :=
  x.wr.all (fun d => !(y.rd.contains d) && !(y.wr.contains d)) && y.wr.all (fun d => !(x.rd.contains d)) &&
  (x.op.cls == 0 || (y.op.cls == 0 && x.op.cls ≤ 2) || (x.op.cls ≤ 1 && y.op.cls ≤ 1))

/-- Of each operation those that stand ahead of it, by the edges: a mask each. -/
def ancStep (acc : List Nat) (o : Oper) : List Nat :=
  acc ++ [o.after.toList.foldl (fun s e => if Region.binds .any e then s ||| 2 ^ e.on ||| (acc[e.on]?).getD 0 else s) 0]
def ancs (ops : List Oper) : List Nat := ops.foldl ancStep []

def backB (ops : List Oper) : Bool := ops.zipIdx.all fun p => p.1.after.toList.all fun e => !Region.binds .any e || e.on < p.2

def pairOk (m : List Nat) (l : List IOper) : List Nat → Bool
  | [] => true
  | y :: R => R.all (fun x => ((m[x]?).getD 0).testBit y || (match l[y]?, l[x]? with | some a, some b => a.apart b | _, _ => false)) && pairOk m l R

/-- An order in which what turns much comes late. -/
def orderR (ops : List Oper) (l : List IOper) : Nat → List Nat → List Nat
  | 0, done => done
  | f + 1, done =>
    let rs := (List.range ops.length).filter fun i => !done.contains i && ((ops[i]?).map fun o => o.after.toList.all fun e => !Region.binds .any e || done.contains e.on).getD false
    let c (i : Nat) : Nat := ((l[i]?).map (·.op.cls)).getD 0
    match rs.find? (fun i => decide (c i ≤ 2)), rs with
    | some i, _ => orderR ops l f (done ++ [i])
    | none, i :: _ => orderR ops l f (done ++ [i])
    | none, [] => done

def nodupB : List Nat → Bool
  | [] => true
  | x :: l => !(l.contains x) && nodupB l

def permB (n : Nat) (R : List Nat) : Bool := nodupB R && (List.range n).all R.contains && R.all (decide <| · < n)

def drawB (ops : List Oper) (l : List IOper) (R : List Nat) : Bool := backB ops && permB ops.length R && pairOk (ancs ops) l R

def pick (l : List IOper) (R : List Nat) : List IOper := R.filterMap (l[·]?)

def tryDraw (ops : List Oper) (l : List IOper) : Option (List IOper) :=
  if drawB ops l (List.range ops.length) then some l else
  if drawB ops l (orderR ops l ops.length []) then some (pick l (orderR ops l ops.length [])) else none

def compRegion (P : Program) (B : List Nat) (n : Nat) (own : List Nat) (ops : Array Oper) (draw : Bool) : Option (List IOper) :=
  if draw = false then compOps P B ops n own false 0 ops.toList else
  match (compOps P B ops n own false 0 ops.toList).bind (tryDraw ops.toList) with
  | some l => some l
  | none => (compOps P B ops n own true 0 ops.toList).bind (tryDraw ops.toList)

def comp (P : Program) (B : List Nat) (n : Nat) (own : List Nat) : Code → Option ICode
  | .skip => some .skip
  | .region _ ops d => (compRegion P B n own ops d).map fun l => .region l.length l
  | .seq a b => (comp P B n own a).bind fun a => (comp P B n own b).map fun b => .seq a b
  | .cond c a b => (opd B c).bind fun c => (comp P B n own a).bind fun a => (comp P B n own b).map fun b => .cond c a b
  | .block i a => (comp P B n own a).map fun a => .block i a
  | .loop a => (comp P B n own a).map fun a => .loop a
  | .exit i => some (.exit i)
  | .ret => some .ret
  | _ => none

/-! ### What a function's code comes to -/

inductive IRes where
  | tmp (t : Nat)
  | cell (t sz : Nat) (ag : Bool)

structure IFn where
  n : Nat
  B : List Nat
  np : Nat
  res : List IRes
  code : ICode

def compRes (P : Program) (B : List Nat) : ResultVar → Option IRes
  | .tmp t => if B.contains t then none else some (.tmp t)
  | .cell t ty => if B.contains t then (tySize P ty).bind fun sz => (tyAgg P ty).map fun ag => .cell t sz ag else none

def compFn (P : Program) (B own : List Nat) (fn : Func) : Option IFn :=
  match fn.body with
  | none => none
  | some c =>
    (comp P B fn.ntmps own c).bind fun code =>
    (fn.results.toList.mapM (compRes P B)).bind fun res =>
    if fn.params.size + fn.nfree ≤ fn.ntmps ∧ (B.all fun b => fn.params.size + fn.nfree ≤ b) ∧ fn.name ≠ "runtime.NumGoroutine" then
      some { n := fn.ntmps, B, np := fn.params.size + fn.nfree, res, code }
    else none

end Go.Av

namespace Go.Av

def putE (env : Env) (d : Option Nat) (v : AV) : Env :=
  match d with
  | some t => upd env t v
  | none => env

@[simp] theorem putE_some (env : Env) (t : Nat) (v : AV) : putE env (some t) v = upd env t v := rfl
@[simp] theorem putE_none (env : Env) (v : AV) : putE env none v = env := rfl

/-- A call of a function, whether it has a body or not. -/
def CallSem (P : Program) (f : FuncId) (vs : Array Value) (w : World) (R : Value → World → Prop) : Prop :=
  match (callFunc f vs).run P w with
  | .ok (.enter g as) w' => Calls P g as w' (fun e w'' => ∃ v, e = .returned v ∧ R v w'')
  | .ok (.value v) w' => R v w'
  | _ => False

theorem CallSem.mono {P : Program} {f : FuncId} {vs : Array Value} {w : World} {R R' : Value → World → Prop} (h : CallSem P f vs w R) (hr : ∀ v w', R v w' → R' v w') : CallSem P f vs w R' := by
  unfold CallSem at *
  generalize (callFunc f vs).run P w = r at *
  cases r with
  | ok n w' =>
    cases n <;> simp only at h ⊢
    case value v => exact hr _ _ h
    case enter g as => exact h.mono fun e w'' ⟨v, he, hv⟩ => ⟨v, he, hr _ _ hv⟩
  | halt x w' => exact h

/-- Value by value. -/
def RVs (F : Nat → Prop) (μ : Nat → Option Spot) (w : World) (as : List AV) (vs : List Value) : Prop :=
  vs.length = as.length ∧ ∀ i (hi : i < as.length) (hj : i < vs.length), RV F μ w as[i] vs[i]

/-- What a call ends in. -/
def Ends (F K : Nat → Prop) (μ : Nat → Option Spot) (w : World) (R : AV → Heap → Prop) (v : Value) (w' : World) : Prop :=
  ∃ r σ' F' μ', R r σ' ∧ RV F' μ' w' r v ∧ Inv F' K μ' σ' w' ∧ Ext F K μ w F' μ' w'

/-- A contract: called with values that these say, in whatever memory in which the heap stands, it returns what R says. -/
def CallsA (P : Program) (f : FuncId) (args : List AV) (σ : Heap) (R : AV → Heap → Prop) : Prop :=
  ∀ F K μ w (vs : List Value), RVs F μ w args vs → Inv F K μ σ w → CallSem P f vs.toArray w (Ends F K μ w R)

theorem CallsA.mono {P : Program} {f : FuncId} {args : List AV} {σ : Heap} {R R' : AV → Heap → Prop} (h : CallsA P f args σ R) (hr : ∀ r s, R r s → R' r s) : CallsA P f args σ R' :=
  fun F K μ w vs hv hi => (h F K μ w vs hv hi).mono fun _ _ ⟨r, σ', F', μ', h1, h2⟩ => ⟨r, σ', F', μ', hr _ _ h1, h2⟩

/-- It leaves the heap as it is, and returns just this. -/
def PureAt (P : Program) (f : FuncId) (args : List AV) (σ : Heap) (r : AV) : Prop := CallsA P f args σ fun v s => v = r ∧ s = σ
def Pure (P : Program) (f : FuncId) (args : List AV) (r : AV) : Prop := ∀ σ, PureAt P f args σ r

/-- What is known may be told otherwise: rows are let go (they never change any more), others dropped. -/
def Gh (σ : Heap) (vs : List AV) (σ' : Heap) (vs' : List AV) : Prop :=
  ∀ F K μ w (xs : List Value), RVs F μ w vs xs → Inv F K μ σ w → ∃ F' μ', RVs F' μ' w vs' xs ∧ Inv F' K μ' σ' w ∧ Ext F K μ w F' μ' w

theorem Gh.refl (σ : Heap) (vs : List AV) : Gh σ vs σ vs := fun F K μ w _ h hi => ⟨F, μ, h, hi, Ext.refl F K μ w⟩

def CallG (P : Program) (fv : AV) (args : List AV) (σ : Heap) (k : AV → Heap → Prop) : Prop :=
  ∃ f caps args' σ' R, fv = .clo f caps ∧ Gh σ (args ++ caps) σ' args' ∧ CallsA P f args' σ' R ∧ (∃ r s, R r s) ∧ ∀ r s, R r s → k r s

def CallQ (P : Program) (fv : AV) (args : List AV) (σ : Heap) (k : AV → Prop) : Prop :=
  ∃ f caps r, fv = .clo f caps ∧ PureAt P f (args ++ caps) σ r ∧ k r

/-- A value that is there, and what is said of it. -/
def Holds {α : Type} (o : Option α) (k : α → Prop) : Prop := ∃ v, o = some v ∧ k v

theorem Holds_some {α : Type} (v : α) (k : α → Prop) : Holds (some v) k = k v := by simp [Holds]

def storeH (σ : Heap) (sz : Nat) (v : AV) : AV → Option Heap
  | .ptr b i off => (rowOf (σ b)).bind fun r => (r.2[i]?).bind fun e => if v.flat = true ∧ v.cells.length = sz then (e.setPart off v.cells).map fun e' => upd σ b (some (.row r.1 (r.2.set i e'))) else none
  | _ => none

def storeB (t : Nat) (box : AV) (sz : Nat) (v : AV) : AV → Option AV
  | .dpt t' st off => if t' = t ∧ v.flat = true ∧ v.cells.length = sz then (boxOf st box).bind fun e => (e.setPart off v.cells).map fun e' => .box st e' else none
  | _ => none

def appDst (σ : Heap) (sz : Nat) : AV → Option (List AV × Option Nat)
  | .nils => some ([], none)
  | .row sz' b lo n => if lo = 0 ∧ sz' = sz then (rowOf (σ b)).bind fun r => if r.1 = sz ∧ n ≤ r.2.length then some (r.2.take n, some b) else none else none
  | _ => none

def rowOk (sz : Nat) (es : List AV) : Bool := es.all fun e => e.flat && (e.cells.length == sz)

def appSrc (σ : Heap) (sz : Nat) : AV → Option (List AV)
  | .nils => some []
  | .lst sz' xs => if sz' = sz then some xs else none
  | .row _ b lo n => (rowOf (σ b)).bind fun r => if r.1 = sz ∧ lo + n ≤ r.2.length then some ((r.2.drop lo).take n) else none
  | _ => none

def killB (σ : Heap) : Option Nat → Heap
  | some b => upd σ b none
  | none => σ

def AppG (sz bytes : Nat) (s x : AV) (σ : Heap) (k : AV → Heap → Prop) : Prop :=
  Holds (appDst σ sz s) fun d => Holds (appSrc σ sz x) fun xs =>
    (d.1.length + xs.length) * bytes ≤ 140737488355328 ∧ d.1.length + xs.length ≤ maxLen ∧
    ∀ c, σ c = none → k (.row sz c 0 (d.1.length + xs.length)) (upd (killB σ d.2) c (some (.row sz (d.1 ++ xs))))

def MksG (sz bytes : Nat) (z l c : AV) (σ : Heap) (k : AV → Heap → Prop) : Prop :=
  Holds (asI l) fun l => Holds (asI c) fun c => (0 ≤ l ∧ l ≤ c ∧ (bytes : Int) * c ≤ 140737488355328 ∧ c ≤ 9223372036854775807) ∧
    ∀ b, σ b = none → k (.row sz b 0 l.toNat) (upd σ b (some (.row sz (List.replicate l.toNat z))))

/-- Is a slice nil? Of one of no element nobody knows. -/
def SnilG (neg : Bool) (x : AV) (k : AV → Prop) : Prop := Holds (lenA x) fun n => ∀ b : Bool, (b = true → n = 0) → k (.bool (b != neg))

/-- No place in the frame's boxes. -/
def AV.okArg : AV → Bool
  | .dpt _ _ _ => false
  | _ => true

def OpI (P : Program) (io : IOp) (dst : Option Nat) (env : Env) (nv : Nat) (σ : Heap) (k : Env → Heap → Prop) : Prop :=
  match io with
  | .store (some t) sz p v => Holds (storeB t (env t) sz (v.ev env) (p.ev env)) fun e => k (upd env t e) σ
  | .store none sz p v => Holds (storeH σ sz (v.ev env) (p.ev env)) fun s => k env s
  | .new z => ∀ b, σ b = none → k (putE env dst (.ptr b 0 0)) (upd σ b (some (.row z.cells.length [z])))
  | .hbox x => (x.ev env).flat = true ∧ ∀ b, σ b = none → k (putE env dst (.ptr b 0 0)) (upd σ b (some (.row (x.ev env).cells.length [x.ev env])))
  | .bsliceO sz els => rowOk sz (els.map (·.ev env)) = true ∧ ∀ b, σ b = none → k (putE env dst (.row sz b 0 els.length)) (upd σ b (some (.row sz (els.map (·.ev env)))))
  | .app sz bytes s x => AppG sz bytes (s.ev env) (x.ev env) σ fun r s => k (putE env dst r) s
  | .mks sz bytes z l c => MksG sz bytes z (l.ev env) (c.ev env) σ fun r s => k (putE env dst r) s
  | .call f as => (as.map (·.ev env)).all AV.okArg = true ∧ CallG P (f.ev env) (as.map (·.ev env)) σ fun r s => k (putE env dst r) s
  | .callq f as => (as.map (·.ev env)).all AV.okArg = true ∧ CallQ P (f.ev env) (as.map (·.ev env)) σ fun r => k (putE env dst r) σ
  | .snil neg x => SnilG neg (x.ev env) fun r => k (putE env dst r) σ
  | .cpy _ _ _ => False
  | .clr _ _ => False
  | op => Holds (evalI env nv σ op) fun v => k (putE env dst v) σ

def guardA (env : Env) : Option (Nat × Bool) → Option Bool
  | none => some true
  | some (j, want) => (match env j with | .sc (.bool b) => some (b == want) | .tup [] => some false | _ => none)

/-- It is carried out, or not. -/
def GuardG (g : Option Bool) (yes no : Prop) : Prop := ∃ b, g = some b ∧ (b = true → yes) ∧ (b = false → no)

theorem GuardG_true (yes no : Prop) : GuardG (some true) yes no = yes := by simp [GuardG]
theorem GuardG_false (yes no : Prop) : GuardG (some false) yes no = no := by simp [GuardG]

def RunI (P : Program) (nv : Nat) : List IOper → (Env → Heap → Prop) → Env → Heap → Prop
  | [], k, env, σ => k env σ
  | o :: os, k, env, σ => GuardG (guardA env o.g) (OpI P o.op o.dst env nv σ (RunI P nv os k)) (RunI P nv os k (putE env o.dst (.tup [])) σ)

inductive IExit where
  | normal | exit (id : Nat) | ret

abbrev IPost := IExit → Env → Nat → Heap → Prop

def seqQ (k : Env → Nat → Heap → Prop) (Q : IPost) : IPost
  | .normal, e, n, s => k e n s
  | x, e, n, s => Q x e n s

def blkQ (id : Nat) (Q : IPost) : IPost
  | .exit i, e, n, s => if i = id then Q .normal e n s else Q (.exit i) e n s
  | x, e, n, s => Q x e n s

def CondG (v : AV) (A B : Prop) : Prop := ∃ b, v = .sc (.bool b) ∧ (b = true → A) ∧ (b = false → B)

theorem CondG_true (A B : Prop) : CondG (.sc (.bool true)) A B = A := by simp [CondG]
theorem CondG_false (A B : Prop) : CondG (.sc (.bool false)) A B = B := by simp [CondG]

def IOper.wrs (l : List IOper) : List Nat := l.flatMap IOper.wr

def written : ICode → List Nat
  | .region _ ops => IOper.wrs ops
  | .seq a b | .cond _ a b => written a ++ written b
  | .block _ a | .loop a => written a
  | _ => []

def agree (W : List Nat) (e e' : Env) : Prop := ∀ t, t ∉ W → e' t = e t

/-- What a slot tells of what lies in it, or in its box. -/
def AV.con : AV → AV
  | .box _ e => e
  | .dpt _ _ _ => .any
  | a => a

/-- Boxes stay boxes. -/
def AV.alike : AV → AV → Prop
  | .box st e, a => ∃ e', a = .box st e' ∧ (e.flat = true → e'.flat = true)
  | .dpt t st o, a => a = .dpt t st o ∨ a = .any
  | _, a => (∀ st e, a ≠ .box st e) ∧ ∀ t st o, a ≠ .dpt t st o

/-- The frame's ghost step: what is known is told otherwise. -/
def GhE (env : Env) (σ : Heap) (env' : Env) (σ' : Heap) : Prop :=
  (∀ t, (env t).alike (env' t)) ∧
  ∀ F K μ w (xs : Nat → Value), (∀ t, RV F μ w (env t).con (xs t)) → Inv F K μ σ w →
    ∃ F' μ', (∀ t, RV F' μ' w (env' t).con (xs t)) ∧ Inv F' K μ' σ' w ∧ Ext F K μ w F' μ' w

theorem AV.alike_refl (a : AV) : a.alike a := by
  cases a <;> simp [AV.alike]

theorem GhE.refl (env : Env) (σ : Heap) : GhE env σ env σ :=
  ⟨fun _ => AV.alike_refl _, fun F K μ w _ h hi => ⟨F, μ, h, hi, Ext.refl F K μ w⟩⟩

/-- .. with blocks at hand that nobody uses: from N on. -/
def GhN (N : Nat) (env : Env) (σ : Heap) (env' : Env) (σ' : Heap) : Prop :=
  (∀ t, (env t).alike (env' t)) ∧
  ∀ F K μ w (xs : Nat → Value), (∀ b, N ≤ b → μ b = none) → (∀ t, RV F μ w (env t).con (xs t)) → Inv F K μ σ w →
    ∃ F' μ', (∀ t, RV F' μ' w (env' t).con (xs t)) ∧ Inv F' K μ' σ' w ∧ Ext F K μ w F' μ' w

theorem GhE.ghN {env env' : Env} {σ σ' : Heap} (h : GhE env σ env' σ') (N : Nat) : GhN N env σ env' σ' :=
  ⟨h.1, fun F K μ w xs _ h1 h2 => h.2 F K μ w xs h1 h2⟩

/-- A loop: what holds at each round's head, a measure, and what is told otherwise on the way. -/
def LoopG (c : (IPost) → Env → Nat → Heap → Prop) (W : List Nat) (Q : IPost) (env : Env) (_nv : Nat) (σ : Heap) : Prop :=
  ∀ N, (∀ b, N ≤ b → σ b = none) → ∃ (env0 : Env) (σ0 : Heap) (I : Env → Heap → Prop) (m : Env → Heap → Nat), GhN N env σ env0 σ0 ∧ agree W env env0 ∧ I env0 σ0 ∧
    ∀ env1 nv1 σ1, agree W env0 env1 → I env1 σ1 →
      c (seqQ (fun e _ s => ∃ e' s', GhE e s e' s' ∧ agree W env0 e' ∧ I e' s' ∧ m e' s' < m env1 σ1) Q) env1 nv1 σ1

def WpI (P : Program) : ICode → IPost → Env → Nat → Heap → Prop
  | .skip, Q, e, n, s => Q .normal e n s
  | .region m ops, Q, e, n, s => RunI P n ops (fun e s => Q .normal e (n + m) s) e s
  | .seq a b, Q, e, n, s => WpI P a (seqQ (WpI P b Q) Q) e n s
  | .cond c a b, Q, e, n, s => CondG (c.ev e) (WpI P a Q e n s) (WpI P b Q e n s)
  | .block id a, Q, e, n, s => WpI P a (blkQ id Q) e n s
  | .loop a, Q, e, n, s => LoopG (WpI P a) (written a) Q e n s
  | .exit id, Q, e, n, s => Q (.exit id) e n s
  | .ret, Q, e, n, s => Q .ret e n s

/-- A function's result. -/
def resA1 (env : Env) : IRes → Option AV
  | .tmp t => (match env t with | .box _ _ => none | .dpt _ _ _ => none | a => some a)
  | .cell t sz ag => (match env t with | .box _ e => e.part 0 sz ag | _ => none)

def resAs (env : Env) : List IRes → Option (List AV)
  | [] => some []
  | r :: rs => (resA1 env r).bind fun a => (resAs env rs).map (a :: ·)

def oneOrTup : List AV → AV
  | [a] => a
  | l => .tup l

/-- The end of a function: its result, perhaps told otherwise. -/
def RetG (vs : Option (List AV)) (σ : Heap) (R : AV → Heap → Prop) : Prop :=
  ∃ l l' σ', vs = some l ∧ Gh σ l σ' l' ∧ R (oneOrTup l') σ'

def retQ (res : List IRes) (R : AV → Heap → Prop) : IPost
  | .normal, e, _, s => RetG (resAs e res) s R
  | .ret, e, _, s => RetG (resAs e res) s R
  | _, _, _, _ => False

/-- The arguments lie in the first slots. -/
def argE (args : List AV) (t : Nat) : AV := (args[t]?).getD (.tup [])

end Go.Av

namespace Go.Av

section
variable {F F' K : Nat → Prop} {μ μ' : Nat → Option Spot} {w w' : World} {P : Program}

theorem mapM_some {α β : Type} {f : α → Option β} : ∀ {l : List α} {r : List β}, l.mapM f = some r → r.length = l.length ∧ ∀ i (h : i < l.length) (h' : i < r.length), f l[i] = some r[i]
  | [], r, h => by
    have : r = [] := by simpa using h.symm
    subst this; exact ⟨rfl, fun i h => absurd h (Nat.not_lt_zero _)⟩
  | x :: l, r, h => by
    rw [List.mapM_cons] at h
    cases hx : f x with
    | none => simp [hx] at h
    | some y =>
      cases hl : l.mapM f with
      | none => simp [hx, hl] at h
      | some ys =>
        have hr : r = y :: ys := by simpa [hx, hl] using h.symm
        subst hr
        obtain ⟨h1, h2⟩ := mapM_some hl
        refine ⟨by simp [h1], fun i h h' => ?_⟩
        cases i with
        | zero => simpa using hx
        | succ i => simpa using h2 i (by simpa using h) (by simpa using h')

theorem ofV1_rv {v : Value} {a : AV} (h : ofV1 v = some a) : RV F μ w a v ∧ v.oneCell' = true ∧ a.one = true := by
  unfold ofV1 at h
  split at h
  · cases h
  · cases h
  · cases h; exact ⟨.nils none, rfl, rfl⟩
  · cases h
  · cases h; exact ⟨.clo _ [] [] rfl (fun i hi => absurd hi (Nat.not_lt_zero _)), rfl, rfl⟩
  · rename_i h1 h2 h3 h4 h5
    cases h
    have ho : v.oneCell' = true := by
      cases v <;> first | rfl | (exact absurd rfl (h1 _)) | (exact absurd rfl (h2 _))
    exact ⟨.sc v ho, ho, rfl⟩

theorem ofV_rv {v : Value} {a : AV} (h : ofV v = some a) : RV F μ w a v := by
  unfold ofV at h
  split at h
  · rename_i cs
    cases hm : cs.mapM ofV1 with
    | none => simp [hm] at h
    | some as =>
      have ha : a = .agg as := by simpa [hm] using h.symm
      subst ha
      obtain ⟨h1, h2⟩ := mapM_some hm
      exact .agg as cs h1.symm (fun i hi => (ofV1_rv (F := F) (μ := μ) (w := w) (h2 i (by omega) hi)).2.2) (fun i hi hj => (ofV1_rv (h2 i hj hi)).1)
  · cases h; exact .tup [] [] rfl (fun i hi => absurd hi (Nat.not_lt_zero _))
  · exact (ofV1_rv h).1

theorem one_cells {v : Value} (h : v.oneCell' = true) : v.cells = #[v] := by
  cases v <;> first | rfl | simp [Value.oneCell'] at h

/-- A part of a value: an aggregate's cells, or one of them. -/
def vpart (off sz : Nat) (ag : Bool) (v : Value) : Option Value :=
  if ag then (if off + sz ≤ v.cells.size then some (.agg (v.cells.extract off (off + sz))) else none) else v.cells[off]?

theorem part_rv {e r : AV} {v : Value} {off sz : Nat} {ag : Bool} (h : AV.part off sz ag e = some r) (hv : RV F μ w e v) :
    ∃ u, vpart off sz ag v = some u ∧ RV F μ w r u ∧ r.flat = true := by
  unfold AV.part at h
  split at h
  · rename_i cs
    cases hv with
    | agg _ vs hl h1 hc =>
      cases ag with
      | true =>
        simp only [if_true] at h
        split at h
        · rename_i hle
          cases h
          refine ⟨.agg ((vs.drop off).take sz).toArray, ?_, ?_, rfl⟩
          · simp only [vpart, if_true, Value.cells, List.size_toArray, hl, if_pos hle, List.extract_toArray, List.extract_eq_take_drop]
            simp
          · refine .agg _ _ (by simp [hl]) (fun i hi => ?_) (fun i hi hj => ?_)
            · simp only [List.getElem_take, List.getElem_drop]; exact h1 _ _
            · simp only [List.getElem_take, List.getElem_drop]; exact hc _ _ _
        · cases h
      | false =>
        simp only [Bool.false_eq_true, if_false] at h
        obtain ⟨hi, rfl⟩ := List.getElem?_eq_some_iff.1 h
        have hj : off < vs.length := by omega
        refine ⟨vs[off], by simp [vpart, Value.cells, hj], hc off hi hj, ?_⟩
        exact AV.one_flat (h1 off hi)
  · rename_i hna
    split at h
    · rename_i hc
      cases h
      obtain ⟨rfl, rfl, h1⟩ := hc
      have ho := hv.oneCell h1
      refine ⟨v, by simp [vpart, one_cells ho], hv, ?_⟩
      revert h1
      cases e <;> simp [AV.one, AV.flat]
    · cases h

theorem run_isAgg {t : TypeId} {ag : Bool} (h : tyAgg P t = some ag) (w : World) : (isAgg t).run P w = .ok ag w := by
  unfold tyAgg at h
  cases hu : P.underlying t with
  | none => simp [hu] at h
  | some d => cases d <;> simp [hu] at h <;> subst h <;> simp [isAgg, run_underlying hu]

theorem run_size {t : TypeId} {sz : Nat} (h : tySize P t = some sz) (w : World) : (sizeOf t).run P w = .ok sz w := by
  unfold tySize at h
  cases hi : P.info? t with
  | none => simp [hi] at h
  | some i => simp [hi] at h; subst h; simp [sizeOf, typeInfo, hi]

theorem run_part' {t : TypeId} {ag : Bool} {sz off : Nat} {cs : Array Value} {u : Value} (ht : tyAgg P t = some ag) (hs : tySize P t = some sz) (h : vpart off sz ag (.agg cs) = some u) (w : World) :
    (part t cs off).run P w = .ok u w := by
  unfold vpart at h
  cases ag with
  | true =>
    simp only [if_true] at h
    split at h
    · cases h; simp [part, run_isAgg ht, run_size hs, Value.cells]
    · cases h
  | false =>
    simp only [Bool.false_eq_true, if_false, Value.cells] at h
    simp [part, run_isAgg ht, h]

theorem run_loadPart {t : TypeId} {ag : Bool} {sz off k o : Nat} {v u : Value} (ht : tyAgg P t = some ag) (hs : tySize P t = some sz)
    (hc : ∀ j c, v.cells[j]? = some c → w.cell? ⟨k, o + j, none⟩ = some c) (h : vpart off sz ag v = some u) : (loadVar t ⟨k, o + off, none⟩).run P w = .ok u w := by
  unfold vpart at h
  cases ag with
  | true =>
    simp only [if_true] at h
    split at h
    · rename_i hle
      cases h
      have := run_loadCells_list (P := P) w ⟨k, o + off, none⟩ (v.cells.extract off (off + sz)).toList (fun j c hj => by
        rw [Addr.add_none, Nat.add_assoc]
        refine hc (off + j) c ?_
        rw [Array.getElem?_toList] at hj
        rw [Array.getElem?_extract] at hj
        split at hj
        · exact hj
        · cases hj)
      have hl : (v.cells.extract off (off + sz)).toList.length = sz := by simp; omega
      rw [hl, Array.toArray_toList] at this
      simp [loadVar, run_isAgg ht, run_size hs, this]
    · cases h
  | false =>
    simp only [Bool.false_eq_true, if_false] at h
    have := hc off u h
    simp [loadVar, run_isAgg ht, load, Sem.run, this]

theorem over_get {α : Type} {cs new : List α} {off : Nat} (h : off + new.length ≤ cs.length) (j : Nat) :
    (over cs off new)[j]? = if off ≤ j ∧ j < off + new.length then new[j - off]? else cs[j]? := by
  unfold over
  rw [List.append_assoc]
  by_cases h1 : j < off
  · rw [List.getElem?_append_left (by simp; omega), List.getElem?_take, if_pos h1, if_neg (by omega)]
  · rw [List.getElem?_append_right (by simp; omega)]
    have hm : min off cs.length = off := by omega
    simp only [List.length_take, hm]
    by_cases h2 : j < off + new.length
    · rw [List.getElem?_append_left (by omega), if_pos ⟨by omega, h2⟩]
    · rw [List.getElem?_append_right (by omega), List.getElem?_drop, if_neg (by omega)]
      congr 1
      omega

theorem over_length {α : Type} {cs new : List α} {off : Nat} (h : off + new.length ≤ cs.length) : (over cs off new).length = cs.length := by
  unfold over; simp; omega

theorem fold_set (off : Nat) : ∀ (new : List Value) (i : Nat) (cs : Array Value), off + i + new.length ≤ cs.size →
    (new.zipIdx i).foldl (fun (cs : Array Value) (p : Value × Nat) => cs.setIfInBounds (off + p.2) p.1) cs = (over cs.toList (off + i) new).toArray
  | [], i, cs, _ => by simp [over]
  | c :: new, i, cs, h => by
    simp only [List.length_cons] at h
    rw [List.zipIdx_cons, List.foldl_cons]
    rw [fold_set off new (i + 1) (cs.setIfInBounds (off + i) c) (by simp; omega)]
    apply congrArg List.toArray
    apply List.ext_getElem?
    intro j
    rw [over_get (by simp; omega), over_get (by simp; omega)]
    simp only [Array.toList_setIfInBounds, List.getElem?_set, List.length_cons, Array.length_toList]
    by_cases h1 : j = off + i
    · subst h1
      rw [if_neg (by omega), if_pos rfl, if_pos (by omega), if_pos (by omega)]
      simp
    · by_cases h2 : off + (i + 1) ≤ j ∧ j < off + (i + 1) + new.length
      · rw [if_pos h2, if_pos (by omega)]
        have : j - (off + i) = (j - (off + (i + 1))) + 1 := by omega
        rw [this, List.getElem?_cons_succ]
      · rw [if_neg h2, if_neg (by omega), if_neg (by omega)]

end
end Go.Av

namespace Go.Av

section
variable {F F' K : Nat → Prop} {μ μ' : Nat → Option Spot} {w w' : World} {P : Program}

theorem intOp_run {op : BinOp} {k : IntKind} {a b : Int} {v : Value} (h : intOp k a b op = some v) (t : TypeId) (w : World) :
    v.oneCell' = true ∧ (do eqGuard op t (.const (.int k a)) (.const (.int k b)) (.int k a) (.int k b); binOp op t (.int k a) (.int k b) : Sem Value).run P w = .ok v w := by
  cases op <;> simp only [intOp] at h <;> (try split at h) <;> first | (cases h; done) | (injection h with h; subst h; refine ⟨rfl, ?_⟩; simp_all [eqGuard, binOp, Op.intArith, Op.intDiv, Op.intBits, Op.intCmp])

theorem shOp_run {op : BinOp} {k k' : IntKind} {a b : Int} {v : Value} (h : shOp k a b op = some v) (t : TypeId) (w : World) :
    v.oneCell' = true ∧ (do eqGuard op t (.const (.int k a)) (.const (.int k' b)) (.int k a) (.int k' b); binOp op t (.int k a) (.int k' b) : Sem Value).run P w = .ok v w := by
  cases op <;> simp only [shOp] at h <;> (try split at h) <;> first | (cases h; done) | (injection h with h; subst h; refine ⟨rfl, ?_⟩; simp_all [eqGuard, binOp, Op.shift]; try (intro hlt; omega))

theorem strOp_run {op : BinOp} {a b : ByteArray} {v : Value} (h : strOp a b op = some v) (t : TypeId) (w : World) :
    v.oneCell' = true ∧ (do eqGuard op t (.const (.string a)) (.const (.string b)) (.string a) (.string b); binOp op t (.string a) (.string b) : Sem Value).run P w = .ok v w := by
  cases op <;> simp only [strOp] at h <;> (try split at h) <;> first | (cases h; done) | (injection h with h; subst h; refine ⟨rfl, ?_⟩; simp_all [eqGuard, binOp, Op.stringOp])

theorem eqGuard_plain {op : BinOp} {x y : Value} {X Y : Operand} (hx : ∀ cs, x ≠ .agg cs) (hn : x ≠ .nilIface) (t : TypeId) (w : World) : (eqGuard op t X Y x y).run P w = .ok () w := by
  cases op <;> cases x <;> simp_all [eqGuard]

theorem binV_run {op : BinOp} {x y v : Value} (h : binV op x y = some v) (t : TypeId) (X Y : Operand) (w : World) :
    v.oneCell' = true ∧ (do eqGuard op t X Y x y; binOp op t x y : Sem Value).run P w = .ok v w := by
  unfold binV at h
  split at h
  · rename_i k a k' b
    split at h
    · have := shOp_run (P := P) (k' := k') h t w
      refine ⟨this.1, ?_⟩
      have h2 := this.2
      simp only [Sem.run_bind, eqGuard_plain (x := .int k a) (by simp) (by simp) t w] at h2 ⊢
      exact h2
    · split at h
      · rename_i hk; subst hk
        have := intOp_run (P := P) h t w
        refine ⟨this.1, ?_⟩
        have h2 := this.2
        simp only [Sem.run_bind, eqGuard_plain (x := .int k a) (by simp) (by simp) t w] at h2 ⊢
        exact h2
      · cases h
  · rename_i a b
    have := strOp_run (P := P) h t w
    refine ⟨this.1, ?_⟩
    have h2 := this.2
    simp only [Sem.run_bind, eqGuard_plain (x := .string a) (by simp) (by simp) t w] at h2 ⊢
    exact h2
  · cases h

/-! ### Equality of plain types, cell by cell -/

def eqVl : Leaf → Value → Value → Option Bool
  | .int k, .int j a, .int l b => if j = k ∧ l = k then some (a == b) else none
  | .bool, .bool a, .bool b => some (a == b)
  | .str, .string a, .string b => some (a.toList == b.toList)
  | _, _, _ => none

def eqVs : List Leaf → List Value → List Value → Option Bool
  | [], [], [] => some true
  | l :: ls, x :: xs, y :: ys => (eqVl l x y).bind fun b => (eqVs ls xs ys).map fun c => b && c
  | _, _, _ => none

theorem eqLs_eqVs : ∀ {ls : List Leaf} {as bs : List AV} {b : Bool} {xs ys : List Value}, eqLs ls as bs = some b →
    xs.length = as.length → ys.length = bs.length → (∀ i (hi : i < as.length) (hj : i < xs.length), RV F μ w as[i] xs[i]) → (∀ i (hi : i < bs.length) (hj : i < ys.length), RV F μ w bs[i] ys[i]) →
    eqVs ls xs ys = some b := by
  intro ls
  induction ls with
  | nil =>
    intro as bs b xs ys h hx hy _ _
    cases as <;> cases bs <;> simp [eqLs] at h
    subst h
    have := List.eq_nil_of_length_eq_zero hx
    have := List.eq_nil_of_length_eq_zero hy
    subst_vars
    rfl
  | cons l ls ih =>
    intro as bs b xs ys h hx hy h1 h2
    cases as with
    | nil => simp [eqLs] at h
    | cons a as =>
      cases bs with
      | nil => simp [eqLs] at h
      | cons c bs =>
        cases xs with
        | nil => simp at hx
        | cons x xs =>
          cases ys with
          | nil => simp at hy
          | cons y ys =>
            simp only [eqLs, Option.bind_eq_some_iff, Option.map_eq_some_iff] at h
            obtain ⟨b1, hb1, b2, hb2, rfl⟩ := h
            have ha := h1 0 (by simp) (by simp)
            have hc := h2 0 (by simp) (by simp)
            simp only [List.getElem_cons_zero] at ha hc
            have hr := ih hb2 (by simpa using hx) (by simpa using hy) (fun i hi hj => h1 (i + 1) (by simp; omega) (by simp; omega))
              (fun i hi hj => h2 (i + 1) (by simp; omega) (by simp; omega))
            have hl : eqVl l x y = some b1 := by
              unfold eqLeaf at hb1
              split at hb1
              · cases ha; cases hc; exact hb1
              · cases ha; cases hc; exact hb1
              · cases ha; cases hc; simp only [eqVl]; rw [← beq_toListBytes]; exact hb1
              · cases hb1
            simp [eqVs, hl, hr]

theorem eqVs_length : ∀ {ls : List Leaf} {xs ys : List Value} {b : Bool}, eqVs ls xs ys = some b → xs.length = ls.length ∧ ys.length = ls.length
  | [], [], [], _, _ => ⟨rfl, rfl⟩
  | l :: ls, x :: xs, y :: ys, b, h => by
    simp only [eqVs, Option.bind_eq_some_iff, Option.map_eq_some_iff] at h
    obtain ⟨_, _, _, h2, _⟩ := h
    have := eqVs_length h2
    simp [this.1, this.2]
  | [], [], _ :: _, _, h => by simp [eqVs] at h
  | [], _ :: _, _, _, h => by simp [eqVs] at h
  | _ :: _, [], _, _, h => by simp [eqVs] at h
  | _ :: _, _ :: _, [], _, h => by simp [eqVs] at h

theorem eqVs_append : ∀ {l1 l2 : List Leaf} {xs ys : List Value} {b : Bool}, eqVs (l1 ++ l2) xs ys = some b →
    ∃ b1 b2, eqVs l1 (xs.take l1.length) (ys.take l1.length) = some b1 ∧ eqVs l2 (xs.drop l1.length) (ys.drop l1.length) = some b2 ∧ b = (b1 && b2)
  | [], l2, xs, ys, b, h => ⟨true, b, rfl, by simpa using h, by simp⟩
  | l :: l1, l2, xs, ys, b, h => by
    cases xs with
    | nil => simp [eqVs] at h
    | cons x xs =>
      cases ys with
      | nil => simp [eqVs] at h
      | cons y ys =>
        simp only [List.cons_append, eqVs, Option.bind_eq_some_iff, Option.map_eq_some_iff] at h
        obtain ⟨b1, hb1, c, hc, rfl⟩ := h
        obtain ⟨b2, b3, h2, h3, rfl⟩ := eqVs_append hc
        exact ⟨b1 && b2, b3, by simp [eqVs, hb1, h2], by simpa using h3, by rw [Bool.and_assoc]⟩

/-- As a value of its type stands, over its cells. -/
def Stands (P : Program) (t : TypeId) (v : Value) : Prop := (tyAgg P t = some true ∧ ∃ cs, v = .agg cs) ∨ (tyAgg P t = some false ∧ v.cells = #[v])

def EqAtL (P : Program) (d : Nat) (t : TypeId) (ls : List Leaf) : Prop :=
  ∀ (x y : Value) (b : Bool) (D : Nat) (w : World), d ≤ D → Stands P t x → Stands P t y → eqVs ls x.cells.toList y.cells.toList = some b → (Op.equalIn D t x y).run P w = .ok b w

theorem eqVl_cells {l : Leaf} {x y : Value} {b : Bool} (h : eqVl l x y = some b) : x.cells = #[x] ∧ y.cells = #[y] := by
  unfold eqVl at h
  split at h <;> first | exact ⟨rfl, rfl⟩ | cases h

theorem eqVl_int {k : IntKind} {x y : Value} {b : Bool} (h : eqVl (.int k) x y = some b) : ∃ a c, x = .int k a ∧ y = .int k c ∧ b = (a == c) := by
  cases x <;> cases y <;> simp only [eqVl, reduceCtorEq] at h
  split at h
  · rename_i hk
    obtain ⟨rfl, rfl⟩ := hk
    cases h
    exact ⟨_, _, rfl, rfl, rfl⟩
  · cases h

theorem eqVl_bool {x y : Value} {b : Bool} (h : eqVl .bool x y = some b) : ∃ a c, x = .bool a ∧ y = .bool c ∧ b = (a == c) := by
  cases x <;> cases y <;> simp only [eqVl, reduceCtorEq] at h
  cases h
  exact ⟨_, _, rfl, rfl, rfl⟩

theorem eqVl_str {x y : Value} {b : Bool} (h : eqVl .str x y = some b) : ∃ a c, x = .string a ∧ y = .string c ∧ b = (a.toList == c.toList) := by
  cases x <;> cases y <;> simp only [eqVl, reduceCtorEq] at h
  cases h
  exact ⟨_, _, rfl, rfl, rfl⟩

theorem vpart_agg {off sz : Nat} {xs : Array Value} (h : off + sz ≤ xs.size) : vpart off sz true (.agg xs) = some (.agg (xs.extract off (off + sz))) := by
  show (if off + sz ≤ xs.size then _ else _) = _
  exact if_pos h

theorem leaves_agg {d : Nat} {t : TypeId} {ls : List Leaf} (h : leaves P d t = some ls) : tyAgg P t = some true ∨ (tyAgg P t = some false ∧ ls.length = 1) := by
  cases d with
  | zero => cases h
  | succ d =>
    unfold leaves at h
    cases hu : P.underlying t with
    | none => simp [hu] at h
    | some td => cases td <;> simp only [hu, reduceCtorEq] at h <;> simp [tyAgg, hu] <;> (cases h; rfl)

theorem eq_part {d D : Nat} {e : TypeId} {l : List Leaf} {off : Nat} {xs ys : Array Value} {b : Bool} (hl : leaves P d e = some l) (hs : tySize P e = some l.length) (IH : EqAtL P d e l) (hD : d ≤ D)
    (h : eqVs l ((xs.toList.drop off).take l.length) ((ys.toList.drop off).take l.length) = some b) (w : World) :
    ∃ u v, (part e xs off).run P w = .ok u w ∧ (part e ys off).run P w = .ok v w ∧ (Op.equalIn D e u v).run P w = .ok b w := by
  have hlen := eqVs_length h
  simp only [List.length_take, List.length_drop, Array.length_toList] at hlen
  rcases leaves_agg hl with ha | ⟨ha, h1⟩
  · by_cases h0 : l.length = 0
    · have hp : ∀ zs : Array Value, (part e zs off).run P w = .ok (.agg (zs.extract off (off + l.length))) w := fun zs => by simp [part, run_isAgg ha, run_size hs]
      refine ⟨_, _, hp xs, hp ys, IH _ _ b D w hD (.inl ⟨ha, _, rfl⟩) (.inl ⟨ha, _, rfl⟩) ?_⟩
      have e0 : ∀ zs : Array Value, (Value.agg (zs.extract off (off + l.length))).cells.toList = (zs.toList.drop off).take l.length := by
        intro zs; simp only [Value.cells]; simp
      rw [e0, e0]; exact h
    · have hx : vpart off l.length true (.agg xs) = some (.agg (xs.extract off (off + l.length))) := by exact vpart_agg (by omega)
      have hy : vpart off l.length true (.agg ys) = some (.agg (ys.extract off (off + l.length))) := by exact vpart_agg (by omega)
      refine ⟨_, _, run_part' ha hs hx w, run_part' ha hs hy w, IH _ _ b D w hD (.inl ⟨ha, _, rfl⟩) (.inl ⟨ha, _, rfl⟩) ?_⟩
      have e0 : ∀ zs : Array Value, (Value.agg (zs.extract off (off + l.length))).cells.toList = (zs.toList.drop off).take l.length := by
        intro zs; simp only [Value.cells]; simp
      rw [e0, e0]; exact h
  · have hxl : off < xs.size := by omega
    have hyl : off < ys.size := by omega
    have hx : vpart off l.length false (.agg xs) = some xs[off] := by simp [vpart, Value.cells, hxl]
    have hy : vpart off l.length false (.agg ys) = some ys[off] := by simp [vpart, Value.cells, hyl]
    have tk : ∀ (zs : Array Value) (hz : off < zs.size), (zs.toList.drop off).take 1 = [zs[off]] := by
      intro zs hz
      rw [List.drop_eq_getElem_cons (by simpa using hz)]
      simp
    rw [h1, tk xs hxl, tk ys hyl] at h
    obtain ⟨lf, hlf⟩ : ∃ lf, l = [lf] := by
      match l, h1 with
      | [lf], _ => exact ⟨lf, rfl⟩
    subst hlf
    have hc : (xs[off]).cells = #[xs[off]] ∧ (ys[off]).cells = #[ys[off]] := by
      simp only [eqVs, Option.bind_eq_some_iff] at h
      obtain ⟨_, hb, _⟩ := h
      exact eqVl_cells hb
    refine ⟨_, _, run_part' ha hs hx w, run_part' ha hs hy w, IH _ _ b D w hD (.inr ⟨ha, hc.1⟩) (.inr ⟨ha, hc.2⟩) ?_⟩
    rw [hc.1, hc.2]; exact h

theorem eq_fields {d D : Nat} (hD : d ≤ D) (IH : ∀ t ls, leaves P d t = some ls → EqAtL P d t ls) (xs ys : Array Value) (w : World) :
    ∀ (fs : List Field) (off : Nat) (ls : List Leaf) (b : Bool), leavesFs P (leaves P d) off fs = some ls → eqVs ls (xs.toList.drop off) (ys.toList.drop off) = some b →
      (Op.eqFields D xs ys fs).run P w = .ok b w
  | [], off, ls, b, h, hb => by
    simp only [leavesFs, Option.some.injEq] at h
    subst h
    have := eqVs_length hb
    have h1 : xs.toList.drop off = [] := List.eq_nil_of_length_eq_zero this.1
    have h2 : ys.toList.drop off = [] := List.eq_nil_of_length_eq_zero this.2
    rw [h1, h2] at hb
    cases hb
    rfl
  | f :: fs, off, ls, b, h, hb => by
    simp only [leavesFs, Option.bind_eq_some_iff] at h
    obtain ⟨l, hl, h⟩ := h
    split at h
    · rename_i hc
      obtain ⟨ho, hs, hn⟩ := hc
      simp only [Option.map_eq_some_iff] at h
      obtain ⟨ls', h', rfl⟩ := h
      obtain ⟨b1, b2, e1, e2, rfl⟩ := eqVs_append hb
      rw [List.drop_drop, List.drop_drop] at e2
      obtain ⟨u, v, p1, p2, p3⟩ := eq_part (D := D) hl hs (IH _ _ hl) hD e1 w
      have hr := eq_fields hD IH xs ys w fs (off + l.length) ls' b2 h' (by simpa [Nat.add_comm] using e2)
      subst ho
      simp only [Op.eqFields, if_pos hn, Sem.run_bind, p1, p2, p3, Result.andThen_ok]
      cases b1 with
      | true => simpa using hr
      | false => simp
    · cases h

theorem eq_items {d D : Nat} {e : TypeId} {l : List Leaf} (hD : d ≤ D) (hl : leaves P d e = some l) (hs : tySize P e = some l.length) (IH : EqAtL P d e l) (xs ys : Array Value) (w : World) :
    ∀ (n i : Nat) (b : Bool), eqVs (List.replicate n l).flatten (xs.toList.drop (i * l.length)) (ys.toList.drop (i * l.length)) = some b →
      (Op.eqItems D e l.length xs ys (List.range' i n)).run P w = .ok b w
  | 0, i, b, hb => by
    have := eqVs_length hb
    have h1 : xs.toList.drop (i * l.length) = [] := List.eq_nil_of_length_eq_zero (by simpa using this.1)
    have h2 : ys.toList.drop (i * l.length) = [] := List.eq_nil_of_length_eq_zero (by simpa using this.2)
    rw [h1, h2] at hb
    cases hb
    rfl
  | n + 1, i, b, hb => by
    rw [List.replicate_succ, List.flatten_cons] at hb
    obtain ⟨b1, b2, e1, e2, rfl⟩ := eqVs_append hb
    rw [List.drop_drop, List.drop_drop] at e2
    obtain ⟨u, v, p1, p2, p3⟩ := eq_part (D := D) hl hs IH hD e1 w
    have hi : i * l.length + l.length = (i + 1) * l.length := by rw [Nat.add_mul, Nat.one_mul]
    rw [hi] at e2
    have hr := eq_items hD hl hs IH xs ys w n (i + 1) b2 e2
    rw [List.range'_succ]
    simp only [Op.eqItems, Sem.run_bind, p1, p2, p3, Result.andThen_ok]
    cases b1 with
    | true => simpa using hr
    | false => simp

theorem leaves_eq : ∀ (d : Nat) (t : TypeId) (ls : List Leaf), leaves P d t = some ls → EqAtL P d t ls
  | 0, _, _, h => by cases h
  | d + 1, t, ls, h => by
    intro x y b D w hD hx hy hb
    obtain ⟨D, rfl⟩ : ∃ D', D = D' + 1 := ⟨D - 1, by omega⟩
    have hD' : d ≤ D := by omega
    have h0 := h
    unfold leaves at h
    cases hu : P.underlying t with
    | none => simp [hu] at h
    | some td =>
      have ntag : ∀ {v : Value}, Stands P t v → tyAgg P t = some false → v.cells = #[v] := by
        intro v hv ha
        rcases hv with ⟨h1, _⟩ | ⟨_, h1⟩
        · rw [ha] at h1; cases h1
        · exact h1
      have tag : ∀ {v : Value}, Stands P t v → tyAgg P t = some true → ∃ cs, v = .agg cs := by
        intro v hv ha
        rcases hv with ⟨_, h1⟩ | ⟨h1, _⟩
        · exact h1
        · rw [ha] at h1; cases h1
      cases td <;> simp only [hu] at h <;> try (cases h; done)
      case bool =>
        cases h
        have ha : tyAgg P t = some false := by simp [tyAgg, hu]
        rw [ntag hx ha, ntag hy ha] at hb
        simp only [eqVs, Option.bind_eq_some_iff, Option.map_eq_some_iff] at hb
        obtain ⟨b1, h1, c, hc, rfl⟩ := hb
        cases hc
        obtain ⟨p, q, rfl, rfl, rfl⟩ := eqVl_bool h1
        rw [Bool.and_true]; exact run_equalIn_bool w D t _ _ hu
      case int k =>
        cases h
        have ha : tyAgg P t = some false := by simp [tyAgg, hu]
        rw [ntag hx ha, ntag hy ha] at hb
        simp only [eqVs, Option.bind_eq_some_iff, Option.map_eq_some_iff] at hb
        obtain ⟨b1, h1, c, hc, rfl⟩ := hb
        cases hc
        obtain ⟨p, q, rfl, rfl, rfl⟩ := eqVl_int h1
        rw [Bool.and_true]; exact run_equalIn_int w D t _ _ _ _ hu
      case string =>
        cases h
        have ha : tyAgg P t = some false := by simp [tyAgg, hu]
        rw [ntag hx ha, ntag hy ha] at hb
        simp only [eqVs, Option.bind_eq_some_iff, Option.map_eq_some_iff] at hb
        obtain ⟨b1, h1, c, hc, rfl⟩ := hb
        cases hc
        obtain ⟨p, q, rfl, rfl, rfl⟩ := eqVl_str h1
        rw [Bool.and_true]; exact run_equalIn_string w D t _ _ hu
      case array n e =>
        simp only [Option.bind_eq_some_iff] at h
        obtain ⟨l, hl, h⟩ := h
        split at h
        · rename_i hs
          cases h
          have ha : tyAgg P t = some true := by simp [tyAgg, hu]
          obtain ⟨xs, rfl⟩ := tag hx ha
          obtain ⟨ys, rfl⟩ := tag hy ha
          obtain ⟨i, hi⟩ : ∃ i, P.info? e = some i := by
            unfold tySize at hs
            cases hi : P.info? e with
            | none => simp [hi] at hs
            | some i => exact ⟨i, rfl⟩
          have hsz : P.cellsOf e = l.length := by
            unfold tySize at hs; simp [hi] at hs; simp [Program.cellsOf, hi, hs]
          rw [run_equalIn_array w D xs ys hu hi, hsz, List.range_eq_range']
          exact eq_items hD' hl hs (leaves_eq d e l hl) xs ys w n 0 b (by simpa [Value.cells] using hb)
        · cases h
      case struct fs =>
        split at h
        · cases h
        · rename_i hst
          have ha : tyAgg P t = some true := by simp [tyAgg, hu]
          obtain ⟨xs, rfl⟩ := tag hx ha
          obtain ⟨ys, rfl⟩ := tag hy ha
          have hf : P.fieldsOf t = fs := by simp [Program.fieldsOf, hu]
          rw [run_equalIn_struct w D t xs ys (by rw [hf]; exact hu) (by simpa using hst), hf]
          exact eq_fields hD' (fun t ls h => leaves_eq d t ls h) xs ys w fs.toList 0 ls b h (by simpa [Value.cells] using hb)

end
end Go.Av

namespace Go.Av

/-- What a slot of the frame holds. -/
def EVt (U : Nat → Prop) (env : Env) (β : Nat → Nat) (F : Nat → Prop) (μ : Nat → Option Spot) (w : World) (t : Nat) : AV → Value → Prop
  | .box st e, v => U st ∧ v = .pointer (some ⟨β t, 0, none⟩) ∧ e.flat = true ∧ ∃ u ty, RV F μ w e u ∧ w.heap[β t]? = some (.cells u.cells ty (0, 0))
  | .dpt t' st o, v => U st ∧ ∀ e, env t' = .box st e → v = .pointer (some ⟨β t', o, none⟩)
  | a, v => RV F μ w a v

/-- What an operand comes to. -/
def EVo (U : Nat → Prop) (env : Env) (β : Nat → Nat) (F : Nat → Prop) (μ : Nat → Option Spot) (w : World) : AV → Value → Prop
  | .box _ _, _ => False
  | .dpt t' st o, v => U st ∧ ∀ e, env t' = .box st e → v = .pointer (some ⟨β t', o, none⟩)
  | a, v => RV F μ w a v

def KB (K : Nat → Prop) (env : Env) (β : Nat → Nat) (k : Nat) : Prop := K k ∨ ∃ t st e, env t = .box st e ∧ β t = k

structure Rel (B : List Nat) (n : Nat) (F K : Nat → Prop) (μ : Nat → Option Spot) (β : Nat → Nat) (U : Nat → Prop) (env : Env) (σ : Heap) (a : Act) (w : World) : Prop where
  size : a.tmps.size = n
  defers : a.defers = []
  nb : ∀ t st e, env t = .box st e → B.contains t = true
  val : ∀ t, EVt U env β F μ w t (env t) (a.tmps.getD t undef)
  dis : ∀ t t' st st' e e', env t = .box st e → env t' = .box st' e' → β t = β t' → t = t'
  kb : ∀ t st e, env t = .box st e → ¬ K (β t)
  inv : Inv F (KB K env β) μ σ w

section
variable {B : List Nat} {n : Nat} {F K : Nat → Prop} {μ : Nat → Option Spot} {β : Nat → Nat} {U : Nat → Prop} {env : Env} {σ : Heap} {a : Act} {w : World} {P : Program}

theorem EVo.rv {x : AV} {v : Value} (h : EVo U env β F μ w x v) (hb : ∀ st e, x ≠ .box st e) (hd : ∀ t st o, x ≠ .dpt t st o) : RV F μ w x v := by
  cases x <;> first | exact h | (exact absurd rfl (hb _ _)) | (exact absurd rfl (hd _ _ _))

theorem EVo.of_rv {x : AV} {v : Value} (h : RV F μ w x v) : EVo U env β F μ w x v := by
  cases x <;> first | exact h | (cases h)

theorem EVo.of_flat {x : AV} {v : Value} (h : EVo U env β F μ w x v) (hf : x.flat = true) : RV F μ w x v := by
  cases x <;> first | exact h | (cases hf)

theorem opd_ev {x : Operand} {y : Opd} (h : opd B x = some y) (hr : Rel B n F K μ β U env σ a w) : EVo U env β F μ w (y.ev env) (a.eval x) := by
  unfold opd at h
  split at h
  · rename_i t
    have hv := hr.val t
    split at h
    · cases h
      simp only [Opd.ev]
      split
      · rename_i st e he
        rw [he] at hv
        exact ⟨hv.1, fun e' _ => hv.2.1⟩
      · exact .any _
    · rename_i hb
      cases h
      simp only [Opd.ev]
      have hnb := hr.nb t
      show EVo U env β F μ w (env t) (a.tmps.getD t undef)
      generalize a.tmps.getD t undef = v at hv
      cases he : env t <;> rw [he] at hv <;> first | exact hv | (exact absurd (hnb _ _ he) hb)
  · simp only [Option.map_eq_some_iff] at h
    obtain ⟨v, hv, rfl⟩ := h
    exact EVo.of_rv (ofV_rv hv)
  · cases h; exact .sc _ rfl
  · cases h; exact .clo _ [] [] rfl (fun i hi => absurd hi (Nat.not_lt_zero _))

theorem opds_ev {l : List Operand} {r : List Opd} (h : l.mapM (opd B) = some r) (hr : Rel B n F K μ β U env σ a w) :
    r.length = l.length ∧ ∀ i (hi : i < l.length) (hj : i < r.length), EVo U env β F μ w (r[i].ev env) (a.eval l[i]) := by
  obtain ⟨h1, h2⟩ := mapM_some h
  exact ⟨h1, fun i hi hj => opd_ev (h2 i hi hj) hr⟩

/-- What a quiet operation is shown to do. -/
def Does (P : Program) (U : Nat → Prop) (env : Env) (β : Nat → Nat) (F : Nat → Prop) (μ : Nat → Option Spot) (w : World) (a : Act) (o : Oper) (r : AV) : Prop :=
  ∃ u, (execOp a.eval o).run P w = .ok (.value u) w ∧ EVo U env β F μ w r u

theorem asI_ev {x : AV} {v : Value} {i : Int} (h : asI x = some i) (hv : EVo U env β F μ w x v) : ∃ k, v = .int k i := by
  unfold asI at h
  split at h
  · cases h; cases hv; exact ⟨_, rfl⟩
  · cases h

theorem asB_ev {x : AV} {v : Value} {b : Bool} (h : asB x = some b) (hv : EVo U env β F μ w x v) : v = .bool b := by
  unfold asB at h
  split at h
  · cases h; cases hv; rfl
  · cases h

theorem s_bin {o : Oper} {op : BinOp} {t t' : TypeId} {x y : Operand} {X Y : Opd} {r : AV} (ho : o.op = .binOp op t x y t') (hx : opd B x = some X) (hy : opd B y = some Y)
    (hr : Rel B n F K μ β U env σ a w) (hv : binA op (X.ev env) (Y.ev env) = some r) : Does P U env β F μ w a o r := by
  have h1 := opd_ev hx hr
  have h2 := opd_ev hy hr
  unfold binA at hv
  split at hv
  · rename_i p q e1 e2
    rw [e1] at h1; rw [e2] at h2
    simp only [Option.map_eq_some_iff] at hv
    obtain ⟨v, hb, rfl⟩ := hv
    cases h1 with
    | sc _ hp => cases h2 with
      | sc _ hq =>
        have := binV_run (P := P) hb t x y w
        refine ⟨v, ?_, .sc v this.1⟩
        have h3 := this.2
        simp only [execOp, ho, Sem.run_bind] at h3 ⊢
        simp [h3]
  · cases hv

theorem s_eqb {o : Oper} {op : BinOp} {t t' : TypeId} {x y : Operand} {X Y : Opd} {r : AV} {neg : Bool} (ho : o.op = .binOp op t x y t') (hu : P.underlying t = some .bool) (hop : (op = .eql ∧ neg = false) ∨ (op = .neq ∧ neg = true))
    (hx : opd B x = some X) (hy : opd B y = some Y) (hr : Rel B n F K μ β U env σ a w) (hv : ((asB (X.ev env)).bind fun p => (asB (Y.ev env)).map fun q => AV.bool ((p == q) != neg)) = some r) : Does P U env β F μ w a o r := by
  simp only [Option.bind_eq_some_iff, Option.map_eq_some_iff] at hv
  obtain ⟨p, hp, q, hq, rfl⟩ := hv
  have h1 := asB_ev hp (opd_ev hx hr)
  have h2 := asB_ev hq (opd_ev hy hr)
  refine ⟨.bool ((p == q) != neg), ?_, .sc _ rfl⟩
  rcases hop with ⟨rfl, rfl⟩ | ⟨rfl, rfl⟩
  · simp [execOp, ho, h1, h2, eqGuard, binOp, run_equal_bool w t p q hu]
  · simp [execOp, ho, h1, h2, eqGuard, binOp, run_equal_bool w t p q hu]

theorem s_mov {o : Oper} {x : Operand} {X : Opd} {r : AV} (ho : o.op = .move x ∨ o.op = .assign x) (hx : opd B x = some X)
    (hr : Rel B n F K μ β U env σ a w) (hv : some (X.ev env) = some r) : Does P U env β F μ w a o r := by
  cases hv
  exact ⟨a.eval x, by rcases ho with ho | ho <;> simp [execOp, ho], opd_ev hx hr⟩

theorem s_pick {o : Oper} {c x y : Operand} {C X Y : Opd} {r : AV} (ho : o.op = .pick c x y) (hc : opd B c = some C) (hx : opd B x = some X) (hy : opd B y = some Y)
    (hr : Rel B n F K μ β U env σ a w) (hv : (asB (C.ev env)).map (fun t => if t then X.ev env else Y.ev env) = some r) : Does P U env β F μ w a o r := by
  simp only [Option.map_eq_some_iff] at hv
  obtain ⟨b, hb, rfl⟩ := hv
  have h1 := asB_ev hb (opd_ev hc hr)
  refine ⟨if b then a.eval x else a.eval y, ?_, ?_⟩
  · simp [execOp, ho, h1, asBool]
  · cases b with
    | true => exact opd_ev hx hr
    | false => exact opd_ev hy hr

theorem s_eql {o : Oper} {op : BinOp} {t t' : TypeId} {x y : Operand} {X Y : Opd} {r : AV} {neg : Bool} {ls : List Leaf} (ho : o.op = .binOp op t x y t') (hg : P.eqGuardType P.depth t = false)
    (ha : tyAgg P t = some true) (hl : leaves P 20 t = some ls) (hop : (op = .eql ∧ neg = false) ∨ (op = .neq ∧ neg = true))
    (hx : opd B x = some X) (hy : opd B y = some Y) (hr : Rel B n F K μ β U env σ a w) (hv : (eqAgg ls (X.ev env) (Y.ev env)).map (fun b => AV.bool (b != neg)) = some r) : Does P U env β F μ w a o r := by
  simp only [Option.map_eq_some_iff] at hv
  obtain ⟨b, hb, rfl⟩ := hv
  have h1 := opd_ev hx hr
  have h2 := opd_ev hy hr
  unfold eqAgg at hb
  split at hb
  · rename_i xs ys e1 e2
    rw [e1] at h1
    rw [e2] at h2
    generalize hxv : a.eval x = xv at h1
    generalize hyv : a.eval y = yv at h2
    cases h1 with
    | agg xs xvs hxl hx1 hxc =>
    cases h2 with
    | agg ys yvs hyl hy1 hyc =>
    have he := eqLs_eqVs hb hxl hyl hxc hyc
    have hq := leaves_eq 20 t ls hl (.agg xvs.toArray) (.agg yvs.toArray) b 10000 w (by omega) (.inl ⟨ha, _, rfl⟩) (.inl ⟨ha, _, rfl⟩) he
    refine ⟨.bool (b != neg), ?_, .sc _ rfl⟩
    rcases hop with ⟨rfl, rfl⟩ | ⟨rfl, rfl⟩
    · simp [execOp, ho, hxv, hyv, run_eqGuard_agg (hm := hg), run_eql_struct, hq]
    · simp [execOp, ho, hxv, hyv, run_eqGuard_agg (hm := hg), run_neq_struct, hq]
  · cases hb

theorem run_eq_ptr_nil {t e : TypeId} (hu : P.underlying t = some (.pointer e)) (d : Nat) (p : Option Addr) (w : World) : (Op.equalIn (d + 1) t (.pointer p) (.pointer none)).run P w = .ok p.isNone w := by
  cases p <;> simp [Op.equalIn, run_underlying hu]

def isNilFn : Value → Bool
  | .nilFunc => true
  | _ => false

theorem run_eq_func_nil {t : TypeId} {p q : Array TypeId} {b : Bool} (hu : P.underlying t = some (.func p q b)) (d : Nat) (x : Value) (hx : x = .nilFunc ∨ ∃ f c e, x = .func f c e) (w : World) :
    (Op.equalIn (d + 1) t x .nilFunc).run P w = .ok (isNilFn x) w := by
  rcases hx with rfl | ⟨f, c, e, rfl⟩ <;> simp [Op.equalIn, run_underlying hu, isNilFn]

theorem run_cmp {o : Oper} {op : BinOp} {t t' : TypeId} {x y : Operand} {neg b : Bool} (ho : o.op = .binOp op t x y t') (hop : (op = .eql ∧ neg = false) ∨ (op = .neq ∧ neg = true))
    (hg : ∀ op, (eqGuard op t x y (a.eval x) (a.eval y)).run P w = .ok () w) (he : (Op.equalIn (9999 + 1) t (a.eval x) (a.eval y)).run P w = .ok b w)
    (hb : ∀ op, op = .eql ∨ op = .neq → binOp op t (a.eval x) (a.eval y) = (do pure (.bool ((← Op.equal t (a.eval x) (a.eval y)) != (op == .neq))))) :
    (execOp a.eval o).run P w = .ok (.value (.bool (b != neg))) w := by
  have he' : (Op.equal t (a.eval x) (a.eval y)).run P w = .ok b w := he
  rcases hop with ⟨rfl, rfl⟩ | ⟨rfl, rfl⟩
  · simp only [execOp, ho, Sem.run_bind, hg, Result.andThen_ok, hb .eql (.inl rfl), he', Sem.run_pure]
    cases b <;> rfl
  · simp only [execOp, ho, Sem.run_bind, hg, Result.andThen_ok, hb .neq (.inr rfl), he', Sem.run_pure]
    cases b <;> rfl

theorem bin_ptr (t : TypeId) (p q : Option Addr) (op : BinOp) (h : op = .eql ∨ op = .neq) : binOp op t (.pointer p) (.pointer q) = (do pure (.bool ((← Op.equal t (.pointer p) (.pointer q)) != (op == .neq)))) := by
  rcases h with rfl | rfl <;> simp [binOp, show (BinOp.eql == BinOp.neq) = false from rfl]

theorem bin_fun (t : TypeId) (x : Value) (hx : x = .nilFunc ∨ ∃ f c e, x = .func f c e) (op : BinOp) (h : op = .eql ∨ op = .neq) : binOp op t x .nilFunc = (do pure (.bool ((← Op.equal t x .nilFunc) != (op == .neq)))) := by
  rcases h with rfl | rfl <;> rcases hx with rfl | ⟨f, c, e, rfl⟩ <;> simp [binOp, show (BinOp.eql == BinOp.neq) = false from rfl]

theorem s_isnil {o : Oper} {op : BinOp} {t t' : TypeId} {x : Operand} {X : Opd} {r : AV} {neg : Bool} (ho : o.op = .binOp op t x (.const (.pointer none)) t') {e : TypeId}
    (hu : P.underlying t = some (.pointer e)) (hop : (op = .eql ∧ neg = false) ∨ (op = .neq ∧ neg = true))
    (hx : opd B x = some X) (hr : Rel B n F K μ β U env σ a w) (hv : (nilA false (X.ev env)).map (fun b => AV.bool (b != neg)) = some r) : Does P U env β F μ w a o r := by
  simp only [Option.map_eq_some_iff] at hv
  obtain ⟨b, hb, rfl⟩ := hv
  have h1 := opd_ev hx hr
  have key : ∀ p : Option Addr, a.eval x = .pointer p → b = p.isNone → Does P U env β F μ w a o (.bool (b != neg)) := by
    intro p hp hbp
    subst hbp
    refine ⟨_, run_cmp ho hop (fun op => ?_) ?_ ?_, .sc _ rfl⟩
    · rw [hp]; exact eqGuard_plain (by simp) (by simp) t w
    · rw [hp]; exact run_eq_ptr_nil hu 9999 p w
    · rw [hp]; exact fun op h => bin_ptr t p none op h
  unfold nilA at hb
  generalize hxv : a.eval x = xv at h1
  split at hb <;> simp at hb
  · rename_i e1; rw [e1] at h1; cases h1; subst hb; exact key none hxv rfl
  · rename_i e1; rw [e1] at h1; cases h1; subst hb; exact key _ hxv rfl
  · rename_i e1; rw [e1] at h1; cases h1; subst hb; exact key _ hxv rfl

theorem s_isnilf {o : Oper} {op : BinOp} {t t' : TypeId} {x : Operand} {X : Opd} {r : AV} {neg : Bool} (ho : o.op = .binOp op t x (.const .nilFunc) t') {p q : Array TypeId} {v : Bool}
    (hu : P.underlying t = some (.func p q v)) (hop : (op = .eql ∧ neg = false) ∨ (op = .neq ∧ neg = true))
    (hx : opd B x = some X) (hr : Rel B n F K μ β U env σ a w) (hv : (nilA true (X.ev env)).map (fun b => AV.bool (b != neg)) = some r) : Does P U env β F μ w a o r := by
  simp only [Option.map_eq_some_iff] at hv
  obtain ⟨b, hb, rfl⟩ := hv
  have h1 := opd_ev hx hr
  have key : ∀ u : Value, a.eval x = u → (u = .nilFunc ∨ ∃ f c e, u = .func f c e) → b = isNilFn u → Does P U env β F μ w a o (.bool (b != neg)) := by
    intro u hp hu' hbp
    subst hbp
    refine ⟨_, run_cmp ho hop (fun op => ?_) ?_ ?_, .sc _ rfl⟩
    · rw [hp]; rcases hu' with rfl | ⟨f, c, e, rfl⟩ <;> exact eqGuard_plain (by simp) (by simp) t w
    · rw [hp]; exact run_eq_func_nil hu 9999 u hu' w
    · rw [hp]; exact fun op h => bin_fun t u hu' op h
  unfold nilA at hb
  generalize hxv : a.eval x = xv at h1
  split at hb <;> simp at hb
  · rename_i e1; rw [e1] at h1; cases h1; subst hb; exact key _ hxv (.inl rfl) rfl
  · rename_i e1; rw [e1] at h1; cases h1; subst hb; exact key _ hxv (.inr ⟨_, _, _, rfl⟩) rfl

theorem s_un {o : Oper} {op : UnOp} {t : TypeId} {x : Operand} {X : Opd} {r : AV} (ho : o.op = .unOp op t x) (hx : opd B x = some X) (hr : Rel B n F K μ β U env σ a w)
    (hv : (op = .not ∧ notA (X.ev env) = some r) ∨ (op = .neg ∧ negA (X.ev env) = some r)) : Does P U env β F μ w a o r := by
  have h1 := opd_ev hx hr
  generalize hxv : a.eval x = xv at h1
  rcases hv with ⟨rfl, hv⟩ | ⟨rfl, hv⟩
  · unfold notA at hv
    split at hv <;> simp at hv
    rename_i e1; rw [e1] at h1; cases h1; subst hv
    exact ⟨_, by simp [execOp, ho, hxv, Op.unary], .sc _ rfl⟩
  · unfold negA at hv
    split at hv <;> simp at hv
    rename_i e1; rw [e1] at h1; cases h1; subst hv
    exact ⟨_, by simp [execOp, ho, hxv, Op.unary, Op.intArith], .sc _ rfl⟩

theorem s_cvi {o : Oper} {k : IntKind} {s d : TypeId} {x : Operand} {X : Opd} {r : AV} (ho : o.op = .convert s d x) {k' : IntKind} (hs : P.underlying s = some (.int k')) (hd : P.underlying d = some (.int k))
    (hx : opd B x = some X) (hr : Rel B n F K μ β U env σ a w) (hv : cviA k (X.ev env) = some r) : Does P U env β F μ w a o r := by
  have h1 := opd_ev hx hr
  generalize hxv : a.eval x = xv at h1
  unfold cviA at hv
  split at hv <;> simp at hv
  rename_i e1; rw [e1] at h1; cases h1; subst hv
  exact ⟨_, by simp [execOp, ho, hxv, convert, run_underlying hs, run_underlying hd, Conv.intToInt], .sc _ rfl⟩

theorem s_cvs {o : Oper} {s d : TypeId} {x : Operand} {X : Opd} {r : AV} (ho : o.op = .convert s d x) (hs : P.underlying s = some .string) (hd : P.underlying d = some .string)
    (hx : opd B x = some X) (hr : Rel B n F K μ β U env σ a w) (hv : cvsA (X.ev env) = some r) : Does P U env β F μ w a o r := by
  have h1 := opd_ev hx hr
  generalize hxv : a.eval x = xv at h1
  unfold cvsA at hv
  split at hv <;> simp at hv
  rename_i e1; rw [e1] at h1; cases h1; subst hv
  exact ⟨_, by simp [execOp, ho, hxv, convert, run_underlying hs, run_underlying hd], .sc _ rfl⟩

theorem partA_ev {x r : AV} {v : Value} {off sz : Nat} {ag : Bool} (h : partA off sz ag x = some r) (hv : EVo U env β F μ w x v) :
    ∃ cs u, v = .agg cs ∧ vpart off sz ag (.agg cs) = some u ∧ RV F μ w r u := by
  unfold partA at h
  split at h
  · cases hv with
    | agg _ vs hl h1 hc =>
      obtain ⟨u, h2, h3, _⟩ := part_rv h (RV.agg _ vs hl h1 hc)
      exact ⟨_, u, rfl, h2, h3⟩
  · cases h

theorem s_field {o : Oper} {t : TypeId} {x : Operand} {i : Nat} {fs : Array Field} {f : Field} {sz : Nat} {ag : Bool} {X : Opd} {r : AV} (ho : o.op = .field t x i) (hu : P.underlying t = some (.struct fs)) (hf : fs[i]? = some f)
    (hs : tySize P f.type = some sz) (ha : tyAgg P f.type = some ag) (hx : opd B x = some X) (hr : Rel B n F K μ β U env σ a w) (hv : partA f.offset sz ag (X.ev env) = some r) : Does P U env β F μ w a o r := by
  obtain ⟨cs, u, h1, h2, h3⟩ := partA_ev hv (opd_ev hx hr)
  exact ⟨u, by simp [execOp, ho, h1, Instr.field, run_underlying hu, hf, asAgg, run_part' ha hs h2], EVo.of_rv h3⟩

theorem s_idx {o : Oper} {t : TypeId} {x i : Operand} {m : Nat} {e : TypeId} {sz : Nat} {ag : Bool} {X I : Opd} {r : AV} (ho : o.op = .index t x i) (hu : P.underlying t = some (.array m e))
    (hs : tySize P e = some sz) (ha : tyAgg P e = some ag) (hx : opd B x = some X) (hi : opd B i = some I) (hr : Rel B n F K μ β U env σ a w)
    (hv : ((asI (I.ev env)).bind fun i => if 0 ≤ i ∧ i < m then partA (i.toNat * sz) sz ag (X.ev env) else none) = some r) : Does P U env β F μ w a o r := by
  simp only [Option.bind_eq_some_iff] at hv
  obtain ⟨j, hj, hv⟩ := hv
  split at hv
  · rename_i hc
    obtain ⟨cs, u, h1, h2, h3⟩ := partA_ev hv (opd_ev hx hr)
    obtain ⟨k, hk⟩ := asI_ev hj (opd_ev hi hr)
    exact ⟨u, by simp [execOp, ho, h1, hk, Instr.index, run_underlying hu, asIntOf, hc, run_size hs, run_part' ha hs h2], EVo.of_rv h3⟩
  · cases hv

theorem s_sidx {o : Oper} {t : TypeId} {x i : Operand} {X I : Opd} {r : AV} (ho : o.op = .index t x i) (hu : P.underlying t = some .string)
    (hx : opd B x = some X) (hi : opd B i = some I) (hr : Rel B n F K μ β U env σ a w)
    (hv : ((asI (I.ev env)).bind fun i => sidxA i (X.ev env)) = some r) : Does P U env β F μ w a o r := by
  simp only [Option.bind_eq_some_iff] at hv
  obtain ⟨j, hj, hv⟩ := hv
  have h1 := opd_ev hx hr
  obtain ⟨k, hk⟩ := asI_ev hj (opd_ev hi hr)
  generalize hxv : a.eval x = xv at h1
  unfold sidxA at hv
  split at hv
  · rename_i s e1
    rw [e1] at h1
    cases h1
    split at hv
    · rename_i hc
      cases hv
      exact ⟨_, by simp [execOp, ho, hxv, hk, Instr.index, run_underlying hu, asIntOf, hc.1, hc.2], .sc _ rfl⟩
    · cases hv
  · cases hv

theorem s_ext {o : Oper} {x : Operand} {i : Nat} {X : Opd} {r : AV} (ho : o.op = .extract x i) (hx : opd B x = some X) (hr : Rel B n F K μ β U env σ a w)
    (hv : extA i (X.ev env) = some r) : Does P U env β F μ w a o r := by
  have h1 := opd_ev hx hr
  generalize hxv : a.eval x = xv at h1
  unfold extA at hv
  split at hv
  · rename_i vs e1
    rw [e1] at h1
    cases h1 with
    | tup cs us hl hc =>
      obtain ⟨hi, rfl⟩ := List.getElem?_eq_some_iff.1 hv
      have hj : i < us.length := by omega
      exact ⟨us[i], by simp [execOp, ho, hxv, Instr.extract, hj], EVo.of_rv (hc i hi hj)⟩
  · cases hv

theorem lenA_ev {x : AV} {v : Value} {m : Int} (h : lenA x = some m) (hv : EVo U env β F μ w x v) : ∃ (l : Nat) (p : Option Addr) (c : Nat), v = .slice p l c ∧ m = l := by
  unfold lenA at h
  split at h <;> simp at h
  · cases hv
    · exact ⟨_, _, _, rfl, by simp at h; omega⟩
    · exact ⟨_, _, _, rfl, h.symm⟩
  · cases hv; exact ⟨_, _, _, rfl, h.symm⟩
  · cases hv
    · exact ⟨_, _, _, rfl, h.symm⟩
    · exact ⟨_, _, _, rfl, h.symm⟩

theorem slenA_ev {x : AV} {v : Value} {m : Int} (h : slenA x = some m) (hv : EVo U env β F μ w x v) : ∃ s, v = .string s ∧ m = s.size := by
  unfold slenA at h
  split at h <;> simp at h
  cases hv; exact ⟨_, rfl, h.symm⟩

end
end Go.Av

