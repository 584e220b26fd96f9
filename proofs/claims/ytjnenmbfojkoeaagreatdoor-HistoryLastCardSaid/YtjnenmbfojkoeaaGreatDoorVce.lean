/- Part 5 of the proof: own lemmas, of no statement. -/
import Derived.Test.YtjnenmbfojkoeaaGreatDoorVcd
set_option linter.unusedSimpArgs false
set_option linter.unusedVariables false
set_option linter.defProp false
namespace Go.Av
set_option linter.unusedVariables false

/-! The laws by which abstract code is evaluated. What is locked is let alone by simp. -/
inductive Lock.{u} {α : Sort u} (a : α) : Type where
  | mk

def HoldsK {α : Type} (o : Option α) (k : α → Prop) (_ : Lock k) : Prop := Holds o k
def GuardK (g : Option Bool) (A B : Prop) (_ : Lock A) (_ : Lock B) : Prop := GuardG g A B
def CondK (v : AV) (A B : Prop) (_ : Lock A) (_ : Lock B) : Prop := CondG v A B
def AndK (A B : Prop) (_ : Lock B) : Prop := A ∧ B
def CallK (P : Program) (fv : AV) (args : List AV) (σ : Heap) (k : AV → Heap → Prop) (_ : Lock σ) (_ : Lock k) : Prop := CallG P fv args σ k
def CallqK (P : Program) (fv : AV) (args : List AV) (σ : Heap) (k : AV → Prop) (_ : Lock σ) (_ : Lock k) : Prop := CallQ P fv args σ k
def AppK (sz bytes : Nat) (s x : AV) (σ : Heap) (k : AV → Heap → Prop) (_ : Lock σ) (_ : Lock k) : Prop := AppG sz bytes s x σ k
def MksK (sz bytes : Nat) (z l c : AV) (σ : Heap) (k : AV → Heap → Prop) (_ : Lock σ) (_ : Lock k) : Prop := MksG sz bytes z l c σ k
def SnilK (neg : Bool) (x : AV) (k : AV → Prop) (_ : Lock k) : Prop := SnilG neg x k
def RetK (l : Option (List AV)) (σ : Heap) (R : AV → Heap → Prop) (_ : Lock σ) (_ : Lock R) : Prop := RetG l σ R
def LoopK (P : Program) (a : ICode) (Q : IPost) (e : Env) (n : Nat) (s : Heap) (_ : Lock a) (_ : Lock Q) (_ : Lock e) (_ : Lock n) (_ : Lock s) : Prop := WpI P (.loop a) Q e n s
def NewK (σ : Heap) (z : AV) (k : Nat → Prop) (_ : Lock σ) (_ : Lock k) : Prop := ∀ b, σ b = none → k b
theorem HoldsK_some {α : Type} (v : α) (k : α → Prop) (l : Lock k) : HoldsK (some v) k l = k v := Holds_some v k
theorem GuardK_true {A B : Prop} {l : Lock A} {l' : Lock B} : GuardK (some true) A B l l' = A := GuardG_true A B
theorem GuardK_false {A B : Prop} {l : Lock A} {l' : Lock B} : GuardK (some false) A B l l' = B := GuardG_false A B
theorem CondK_true {A B : Prop} {l : Lock A} {l' : Lock B} : CondK (.sc (.bool true)) A B l l' = A := CondG_true A B
theorem CondK_false {A B : Prop} {l : Lock A} {l' : Lock B} : CondK (.sc (.bool false)) A B l l' = B := CondG_false A B
theorem AndK_true {B : Prop} {l : Lock B} : AndK True B l = B := by simp [AndK]
section
variable {P : Program} {Q : IPost} {e env : Env} {n m nv : Nat} {s σ : Heap} {k : Env → Heap → Prop} {d : Option Nat}

-- code
theorem w0 : WpI P .skip Q e n s = Q .normal e n s := rfl
theorem w1 {l : List IOper} : WpI P (.region m l) Q e n s = RunI P n l (fun e s => Q .normal e (n + m) s) e s := rfl
theorem w2 {a b : ICode} : WpI P (.seq a b) Q e n s = WpI P a (seqQ (WpI P b Q) Q) e n s := rfl
theorem w3 {c : Opd} {a b : ICode} : WpI P (.cond c a b) Q e n s = CondK (c.ev e) (WpI P a Q e n s) (WpI P b Q e n s) .mk .mk := rfl
theorem w4 {i : Nat} {a : ICode} : WpI P (.block i a) Q e n s = WpI P a (blkQ i Q) e n s := rfl
theorem w7 {a : ICode} : WpI P (.loop a) Q e n s = LoopK P a Q e n s .mk .mk .mk .mk .mk := rfl
theorem w5 {i : Nat} : WpI P (.exit i) Q e n s = Q (.exit i) e n s := rfl
theorem w6 : WpI P .ret Q e n s = Q .ret e n s := rfl
theorem q0 {f : Env → Nat → Heap → Prop} : seqQ f Q .normal e n s = f e n s := rfl
theorem q1 {f : Env → Nat → Heap → Prop} {i : Nat} : seqQ f Q (.exit i) e n s = Q (.exit i) e n s := rfl
theorem q2 {f : Env → Nat → Heap → Prop} : seqQ f Q .ret e n s = Q .ret e n s := rfl
theorem q3 {i : Nat} : blkQ i Q .normal e n s = Q .normal e n s := rfl
theorem q4 {i j : Nat} : blkQ i Q (.exit j) e n s = if j = i then Q .normal e n s else Q (.exit j) e n s := rfl
theorem q5 {i : Nat} : blkQ i Q .ret e n s = Q .ret e n s := rfl
theorem q6 {r : List IRes} {R : AV → Heap → Prop} : retQ r R .normal e n s = RetK (resAs e r) s R .mk .mk := rfl
theorem q7 {r : List IRes} {R : AV → Heap → Prop} : retQ r R .ret e n s = RetK (resAs e r) s R .mk .mk := rfl
theorem q8 {r : List IRes} {R : AV → Heap → Prop} {i : Nat} : retQ r R (.exit i) e n s = False := rfl
-- regions
theorem r0 : RunI P nv [] k env σ = k env σ := rfl
theorem r1 {op : IOp} {os : List IOper} : RunI P nv (⟨d, op, none⟩ :: os) k env σ = OpI P op d env nv σ (RunI P nv os k) := by
  simp [RunI, guardA, GuardG]
def gA (w : Bool) : AV → Option Bool
  | .sc (.bool b) => some (b == w)
  | .tup [] => some false
  | _ => none
theorem r2 {op : IOp} {os : List IOper} {j : Nat} {b : Bool} : RunI P nv (⟨d, op, some (j, b)⟩ :: os) k env σ = GuardK (gA b (env j)) (OpI P op d env nv σ (RunI P nv os k)) (RunI P nv os k (putE env d (.tup [])) σ) .mk .mk := rfl
theorem g0 {b : Bool} : gA true (.bool b) = some b := by cases b <;> rfl
theorem g1 {b : Bool} : gA false (.bool b) = some (!b) := by cases b <;> rfl
theorem g2 {w : Bool} : gA w (.tup []) = some false := rfl
theorem GuardK_dec {p : Prop} [Decidable p] {A B : Prop} {l : Lock A} {l' : Lock B} : GuardK (some (decide p)) A B l l' = ((p → A) ∧ (¬ p → B)) := by
  by_cases h : p <;> simp [GuardK, GuardG, h]
theorem GuardK_not {b : Bool} {A B : Prop} {l : Lock A} {l' : Lock B} : GuardK (some (!b)) A B l l' = GuardK (some b) B A l' l := by
  cases b <;> simp [GuardK, GuardG]
theorem GuardK_bool {b : Bool} {A B : Prop} {l : Lock A} {l' : Lock B} : GuardK (some b) A B l l' = ((b = true → A) ∧ (b = false → B)) := by
  cases b <;> simp [GuardK, GuardG]
theorem CondK_dec {p : Prop} [Decidable p] {A B : Prop} {l : Lock A} {l' : Lock B} : CondK (.bool (decide p)) A B l l' = ((p → A) ∧ (¬ p → B)) := by
  by_cases h : p <;> simp [CondK, CondG, h]
theorem CondK_not {b : Bool} {A B : Prop} {l : Lock A} {l' : Lock B} : CondK (.bool (!b)) A B l l' = CondK (.bool b) B A l' l := by
  cases b <;> simp [CondK, CondG]
theorem CondK_bool {b : Bool} {A B : Prop} {l : Lock A} {l' : Lock B} : CondK (.bool b) A B l l' = ((b = true → A) ∧ (b = false → B)) := by
  cases b <;> simp [CondK, CondG]
-- slots
theorem e0 {t j : Nat} {v : AV} : putE env (some t) v j = if j = t then v else env j := rfl
theorem e1 {v : AV} {j : Nat} : putE env none v j = env j := rfl
theorem e2 {t : Nat} : (Opd.t t).ev env = env t := rfl
theorem e3 {v : AV} : (Opd.c v).ev env = v := rfl
def bA (t : Nat) : AV → AV
  | .box st _ => .dpt t st 0
  | _ => .any
theorem e4 {t : Nat} : (Opd.b t).ev env = bA t (env t) := rfl
theorem e5 {t st : Nat} {v : AV} : bA t (.box st v) = .dpt t st 0 := rfl
theorem e6 {a : AV} {l : List AV} : argE (a :: l) 0 = a := rfl
theorem e7 {a : AV} {l : List AV} {j : Nat} : argE (a :: l) (j + 1) = argE l j := by simp [argE]
theorem e8 {j : Nat} : argE [] j = .tup [] := rfl
theorem e9 {t j : Nat} {v : AV} : upd env t v j = if j = t then v else env j := rfl
-- operations
theorem o0 {x : Opd} : OpI P (.mov x) d env nv σ k = HoldsK (some (x.ev env)) (fun v => k (putE env d v) σ) .mk := rfl
theorem o1 {c a b : Opd} : OpI P (.pick c a b) d env nv σ k = HoldsK ((asB (c.ev env)).map fun t => if t then a.ev env else b.ev env) (fun v => k (putE env d v) σ) .mk := rfl
theorem o2 {op : BinOp} {x y : Opd} : OpI P (.bin op x y) d env nv σ k = HoldsK (binA op (x.ev env) (y.ev env)) (fun v => k (putE env d v) σ) .mk := rfl
theorem o3 {neg : Bool} {x y : Opd} : OpI P (.eqb neg x y) d env nv σ k = HoldsK ((asB (x.ev env)).bind fun a => (asB (y.ev env)).map fun b => .bool ((a == b) != neg)) (fun v => k (putE env d v) σ) .mk := rfl
theorem o4 {neg : Bool} {ls : List Leaf} {x y : Opd} : OpI P (.eql neg ls x y) d env nv σ k = HoldsK ((eqAgg ls (x.ev env) (y.ev env)).map fun b => .bool (b != neg)) (fun v => k (putE env d v) σ) .mk := rfl
theorem o5 {fn neg : Bool} {x : Opd} : OpI P (.isnil fn neg x) d env nv σ k = HoldsK ((nilA fn (x.ev env)).map fun b => .bool (b != neg)) (fun v => k (putE env d v) σ) .mk := rfl
theorem o6 {x : Opd} : OpI P (.un .not x) d env nv σ k = HoldsK (notA (x.ev env)) (fun v => k (putE env d v) σ) .mk := rfl
theorem o7 {x : Opd} : OpI P (.un .neg x) d env nv σ k = HoldsK (negA (x.ev env)) (fun v => k (putE env d v) σ) .mk := rfl
theorem o8 {i : IntKind} {x : Opd} : OpI P (.cvi i x) d env nv σ k = HoldsK (cviA i (x.ev env)) (fun v => k (putE env d v) σ) .mk := rfl
theorem o9 {x : Opd} : OpI P (.cvs x) d env nv σ k = HoldsK (cvsA (x.ev env)) (fun v => k (putE env d v) σ) .mk := rfl
def buildA (z : AV) (ps : List (Nat × Nat × AV)) : Option AV := (fillA z.cells ps).map .agg
theorem oa {z : AV} {ps : List (Nat × Nat × Opd)} : OpI P (.build z ps) d env nv σ k = HoldsK (buildA z (ps.map fun p => (p.1, p.2.1, p.2.2.ev env))) (fun v => k (putE env d v) σ) .mk := rfl
theorem ob {off sz : Nat} {ag : Bool} {x : Opd} : OpI P (.part off sz ag x) d env nv σ k = HoldsK (partA off sz ag (x.ev env)) (fun v => k (putE env d v) σ) .mk := rfl
theorem oc {len sz : Nat} {ag : Bool} {x i : Opd} : OpI P (.idx len sz ag x i) d env nv σ k = HoldsK ((asI (i.ev env)).bind fun i => if 0 ≤ i ∧ i < len then partA (i.toNat * sz) sz ag (x.ev env) else none) (fun v => k (putE env d v) σ) .mk := rfl
theorem od {x i : Opd} : OpI P (.sidx x i) d env nv σ k = HoldsK ((asI (i.ev env)).bind fun i => sidxA i (x.ev env)) (fun v => k (putE env d v) σ) .mk := rfl
theorem oe {i : Nat} {x : Opd} : OpI P (.ext i x) d env nv σ k = HoldsK (extA i (x.ev env)) (fun v => k (putE env d v) σ) .mk := rfl
theorem of_ {x : Opd} : OpI P (.len x) d env nv σ k = HoldsK ((lenA (x.ev env)).map .int) (fun v => k (putE env d v) σ) .mk := rfl
theorem og {x : Opd} : OpI P (.slen x) d env nv σ k = HoldsK ((slenA (x.ev env)).map .int) (fun v => k (putE env d v) σ) .mk := rfl
theorem oh {v : AV} : OpI P (.const v) d env nv σ k = k (putE env d v) σ := by simp [OpI, evalI, Holds]
theorem oi {sz : Nat} {x : Opd} {lo hi : Option Opd} : OpI P (.slc sz x lo hi) d env nv σ k = HoldsK (slcA sz (x.ev env) (lo.map (·.ev env)) (hi.map (·.ev env))) (fun v => k (putE env d v) σ) .mk := rfl
theorem oj {x h m : Opd} : OpI P (.slc0 x h m) d env nv σ k = HoldsK (slc0A (h.ev env) (m.ev env) (x.ev env)) (fun v => k (putE env d v) σ) .mk := rfl
theorem ok {x : Opd} {lo hi : Option Opd} : OpI P (.sslc x lo hi) d env nv σ k = HoldsK (sslcA (lo.map (·.ev env)) (hi.map (·.ev env)) (x.ev env)) (fun v => k (putE env d v) σ) .mk := rfl
theorem ol {sz : Nat} {ag : Bool} {p : Opd} : OpI P (.load none sz ag p) d env nv σ k = HoldsK (loadA σ sz ag (p.ev env)) (fun v => k (putE env d v) σ) .mk := rfl
theorem om {t sz : Nat} {ag : Bool} {p : Opd} : OpI P (.load (some t) sz ag p) d env nv σ k = HoldsK (loadB t (env t) sz ag (p.ev env)) (fun v => k (putE env d v) σ) .mk := rfl
theorem on {off : Nat} {p : Opd} : OpI P (.faddr none off p) d env nv σ k = HoldsK (addA off (p.ev env)) (fun v => k (putE env d v) σ) .mk := rfl
theorem oo {t off : Nat} {p : Opd} : OpI P (.faddr (some t) off p) d env nv σ k = HoldsK (addB t (env t) off (p.ev env)) (fun v => k (putE env d v) σ) .mk := rfl
theorem op {len sz : Nat} {p i : Opd} : OpI P (.iaddrA none len sz p i) d env nv σ k = HoldsK ((asI (i.ev env)).bind fun i => if 0 ≤ i ∧ i < len then addA (i.toNat * sz) (p.ev env) else none) (fun v => k (putE env d v) σ) .mk := rfl
theorem oq {t len sz : Nat} {p i : Opd} : OpI P (.iaddrA (some t) len sz p i) d env nv σ k = HoldsK ((asI (i.ev env)).bind fun i => if 0 ≤ i ∧ i < len then addB t (env t) (i.toNat * sz) (p.ev env) else none) (fun v => k (putE env d v) σ) .mk := rfl
theorem or_ {sz : Nat} {x i : Opd} : OpI P (.iaddrS sz x i) d env nv σ k = HoldsK ((asI (i.ev env)).bind fun i => iaddrSA sz i (x.ev env)) (fun v => k (putE env d v) σ) .mk := rfl
theorem os {f : FuncId} {caps : List Opd} : OpI P (.mkf f caps) d env nv σ k = HoldsK (if (caps.map (·.ev env)).all AV.one then some (.clo f (caps.map (·.ev env))) else none) (fun v => k (putE env d v) σ) .mk := rfl
theorem ot {x : Opd} : OpI P (.nilc x) d env nv σ k = HoldsK (nilcA (x.ev env)) (fun v => k (putE env d v) σ) .mk := rfl
theorem ou {x : Opd} {ys : List Opd} : OpI P (.mx x ys) d env nv σ k = HoldsK ((i64s ((x :: ys).map (·.ev env))).bind (headI maxI)) (fun v => k (putE env d v) σ) .mk := rfl
theorem ov {x : Opd} {ys : List Opd} : OpI P (.mn x ys) d env nv σ k = HoldsK ((i64s ((x :: ys).map (·.ev env))).bind (headI minI)) (fun v => k (putE env d v) σ) .mk := rfl
def bslA (sz : Nat) : List AV → Option AV
  | [] => some .nils
  | es => if es.all (fun e => e.flat && (e.cells.length == sz)) then some (.lst sz es) else none
theorem ow {sz : Nat} {els : List Opd} : OpI P (.bslice sz els) d env nv σ k = HoldsK (bslA sz (els.map (·.ev env))) (fun v => k (putE env d v) σ) .mk := rfl
theorem ox {ix : Nat} {z : AV} : OpI P (.nbox ix z) d env nv σ k = k (putE env d (.box (nv + ix) z)) σ := by simp [OpI, evalI, Holds]
theorem oy {ix : Nat} {x : Opd} : OpI P (.bbox ix x) d env nv σ k = HoldsK (some (x.ev env)) (fun v => AndK (v.flat = true) (k (putE env d (.box (nv + ix) v)) σ) .mk) .mk := by
  simp only [OpI, evalI, HoldsK, AndK, Holds, Option.some.injEq, exists_eq_left', eq_iff_iff]
  constructor
  · rintro ⟨v, h, hk⟩; split at h <;> cases h; exact ⟨by assumption, hk⟩
  · rintro ⟨h, hk⟩; exact ⟨_, if_pos h, hk⟩
theorem oz {t sz : Nat} {p v : Opd} : OpI P (.store (some t) sz p v) d env nv σ k = HoldsK (storeB t (env t) sz (v.ev env) (p.ev env)) (fun e => k (putE env (some t) e) σ) .mk := rfl
theorem p0 {sz : Nat} {p v : Opd} : OpI P (.store none sz p v) d env nv σ k = HoldsK (storeH σ sz (v.ev env) (p.ev env)) (fun s => k env s) .mk := rfl
theorem p1 {z : AV} : OpI P (.new z) d env nv σ k = NewK σ z (fun b => k (putE env d (.ptr b 0 0)) (upd σ b (some (.row z.cells.length [z])))) .mk .mk := rfl
theorem p2 {x : Opd} : OpI P (.hbox x) d env nv σ k = HoldsK (some (x.ev env)) (fun v => AndK (v.flat = true) (NewK σ v (fun b => k (putE env d (.ptr b 0 0)) (upd σ b (some (.row v.cells.length [v])))) .mk .mk) .mk) .mk := by
  simp only [OpI, HoldsK, AndK, NewK, Holds, Option.some.injEq, exists_eq_left']
theorem p3 {sz : Nat} {els : List Opd} : OpI P (.bsliceO sz els) d env nv σ k = HoldsK (some (els.map (·.ev env))) (fun l => AndK (rowOk sz l = true) (NewK σ .nils (fun b => k (putE env d (.row sz b 0 l.length)) (upd σ b (some (.row sz l)))) .mk .mk) .mk) .mk := by
  simp only [OpI, HoldsK, AndK, NewK, Holds, Option.some.injEq, exists_eq_left', List.length_map]
theorem p4 {sz bytes : Nat} {s x : Opd} : OpI P (.app sz bytes s x) d env nv σ k = AppK sz bytes (s.ev env) (x.ev env) σ (fun r s => k (putE env d r) s) .mk .mk := rfl
theorem p5 {sz bytes : Nat} {z : AV} {l c : Opd} : OpI P (.mks sz bytes z l c) d env nv σ k = MksK sz bytes z (l.ev env) (c.ev env) σ (fun r s => k (putE env d r) s) .mk .mk := rfl
theorem p6 {f : Opd} {as : List Opd} : OpI P (.call f as) d env nv σ k = HoldsK (some (as.map (·.ev env))) (fun l => AndK (l.all AV.okArg = true) (CallK P (f.ev env) l σ (fun r s => k (putE env d r) s) .mk .mk) .mk) .mk := by
  simp [OpI, HoldsK, AndK, CallK, Holds]
theorem p7 {f : Opd} {as : List Opd} : OpI P (.callq f as) d env nv σ k = HoldsK (some (as.map (·.ev env))) (fun l => AndK (l.all AV.okArg = true) (CallqK P (f.ev env) l σ (fun r => k (putE env d r) σ) .mk .mk) .mk) .mk := by
  simp [OpI, HoldsK, AndK, CallqK, Holds]
theorem p8 {neg : Bool} {x : Opd} : OpI P (.snil neg x) d env nv σ k = SnilK neg (x.ev env) (fun r => k (putE env d r) σ) .mk := rfl

-- values
section
variable {kk : IntKind} {a b : Int} {p q : Bool} {x y : ByteArray}
theorem b0 : binA .add (.sc (.int kk a)) (.sc (.int kk b)) = some (.sc (.int kk (kk.wrap (a + b)))) := by simp [binA, binV, isSh, intOp]
theorem b1 : binA .sub (.sc (.int kk a)) (.sc (.int kk b)) = some (.sc (.int kk (kk.wrap (a - b)))) := by simp [binA, binV, isSh, intOp]
theorem b2 : binA .mul (.sc (.int kk a)) (.sc (.int kk b)) = some (.sc (.int kk (kk.wrap (a * b)))) := by simp [binA, binV, isSh, intOp]
theorem b3 (h : b ≠ 0) : binA .quo (.sc (.int kk a)) (.sc (.int kk b)) = some (.sc (.int kk (kk.wrap (a.tdiv b)))) := by simp [binA, binV, isSh, intOp, h]
theorem b4 (h : b ≠ 0) : binA .rem (.sc (.int kk a)) (.sc (.int kk b)) = some (.sc (.int kk (a.tmod b))) := by simp [binA, binV, isSh, intOp, h]
theorem b5 : binA .eql (.sc (.int kk a)) (.sc (.int kk b)) = some (.bool (decide (a = b))) := by simp [binA, binV, isSh, intOp]; rfl
theorem b6 : binA .neq (.sc (.int kk a)) (.sc (.int kk b)) = some (.bool (decide (a ≠ b))) := by simp [binA, binV, isSh, intOp, bne]; rfl
theorem b7 : binA .lss (.sc (.int kk a)) (.sc (.int kk b)) = some (.bool (decide (a < b))) := by simp [binA, binV, isSh, intOp]
theorem b8 : binA .leq (.sc (.int kk a)) (.sc (.int kk b)) = some (.bool (decide (a ≤ b))) := by simp [binA, binV, isSh, intOp]
theorem b9 : binA .gtr (.sc (.int kk a)) (.sc (.int kk b)) = some (.bool (decide (a > b))) := by simp [binA, binV, isSh, intOp]
theorem ba : binA .geq (.sc (.int kk a)) (.sc (.int kk b)) = some (.bool (decide (a ≥ b))) := by simp [binA, binV, isSh, intOp]
theorem ba_list (x y : ByteArray) : (x.toList == y.toList) = decide (x = y) := by
  rw [ByteArray.toList_eq, ByteArray.toList_eq, Bool.eq_iff_iff, beq_iff_eq, decide_eq_true_iff]
  exact ⟨fun h => by cases x; cases y; simp at h; simp [h], fun h => by rw [h]⟩
theorem bb : binA .eql (.str x) (.str y) = some (.bool (decide (x = y))) := by simp only [binA, binV, strOp, Option.map_some, ba_list]
theorem bc : binA .neq (.str x) (.str y) = some (.bool (decide (x ≠ y))) := by simp only [binA, binV, strOp, Option.map_some, ba_list, decide_not]
theorem bd (h : ((x.size + y.size : Nat) : Int) ≤ 9223372036854775807) : binA .add (.str x) (.str y) = some (.str (x ++ y)) := by
  have : ¬ ((x.size + y.size : Nat) : Int) > IntKind.i64.max := by simp only [IntKind.max, IntKind.bits]; omega
  simp only [binA, binV, strOp, if_neg this, Option.map_some]
theorem wr (h1 : -9223372036854775808 ≤ a) (h2 : a ≤ 9223372036854775807) : IntKind.i64.wrap a = a := by
  simp only [IntKind.wrap_i64]; omega
end
end
end Go.Av

namespace Go.Av
set_option linter.unusedVariables false

section
variable {P : Program} {e env : Env} {n nv : Nat} {s σ : Heap} {W : List Nat}

/-! ### What code may change of the frame -/

theorem agree.refl (W : List Nat) (e : Env) : agree W e e := fun _ _ => rfl
theorem agree.trans {a b c : Env} (h : agree W a b) (h' : agree W b c) : agree W a c := fun t ht => (h' t ht).trans (h t ht)
theorem agree.mono {W' : List Nat} {a b : Env} (h : agree W a b) (hs : ∀ t, t ∈ W → t ∈ W') : agree W' a b := fun t ht => h t fun h' => ht (hs t h')
theorem agree.put {a b : Env} {d : Option Nat} {v : AV} (h : agree W a b) (hd : ∀ t, d = some t → t ∈ W) : agree W a (putE b d v) := by
  cases d with
  | none => exact h
  | some t => intro j hj; rw [putE_some, upd_ne _ _ (fun e => hj (by rw [e]; exact hd t rfl))]; exact h j hj

theorem Holds.imp {α : Type} {o : Option α} {k k' : α → Prop} (h : Holds o k) (hk : ∀ v, k v → k' v) : Holds o k' :=
  let ⟨v, h1, h2⟩ := h; ⟨v, h1, hk v h2⟩

theorem CallG.imp {fv : AV} {as : List AV} {k k' : AV → Heap → Prop} (h : CallG P fv as σ k) (hk : ∀ r s, k r s → k' r s) : CallG P fv as σ k' :=
  let ⟨f, caps, a', s', R, h1, h2, h3, h4, h5⟩ := h; ⟨f, caps, a', s', R, h1, h2, h3, h4, fun r s hr => hk r s (h5 r s hr)⟩

/-- Whatever an operation goes on with, it has turned only what it writes. -/
theorem OpI_agree {op : IOp} {d : Option Nat} (g : Option (Nat × Bool)) {k : Env → Heap → Prop} (h : OpI P op d env nv σ k) :
    OpI P op d env nv σ fun e s => k e s ∧ agree (IOper.wr ⟨d, op, g⟩) env e := by
  have hp : ∀ v, agree (IOper.wr ⟨d, op, g⟩) env (putE env d v) :=
    fun v => (agree.refl _ env).put fun t ht => by simp [IOper.wr, ht]
  cases op <;> first
    | exact Holds.imp h fun v hv => ⟨hv, hp v⟩
    | skip
  case store r sz p v =>
    cases r with
    | some t => exact Holds.imp h fun e' hv => ⟨hv, fun j hj => upd_ne _ _ (by rintro rfl; exact hj (by simp [IOper.wr]))⟩
    | none => exact Holds.imp h fun s hv => ⟨hv, agree.refl _ _⟩
  case new z => exact fun b hb => ⟨h b hb, hp _⟩
  case hbox x => exact ⟨h.1, fun b hb => ⟨h.2 b hb, hp _⟩⟩
  case bsliceO sz els => exact ⟨h.1, fun b hb => ⟨h.2 b hb, hp _⟩⟩
  case app sz bytes s x =>
    exact Holds.imp h fun d' hd => Holds.imp hd fun xs ⟨h1, h2, h3⟩ => ⟨h1, h2, fun c hc => ⟨h3 c hc, hp _⟩⟩
  case mks sz bytes z l c =>
    exact Holds.imp h fun l hl => Holds.imp hl fun c ⟨h1, h3⟩ => ⟨h1, fun b hb => ⟨h3 b hb, hp _⟩⟩
  case call f as => exact ⟨h.1, h.2.imp fun r s hr => ⟨hr, hp _⟩⟩
  case callq f as =>
    obtain ⟨h0, f', caps, r, h1, h2, h3⟩ := h
    exact ⟨h0, f', caps, r, h1, h2, h3, hp _⟩
  case snil neg x => exact Holds.imp h fun v hv b hb => ⟨hv b hb, hp _⟩
  case cpy => exact h.elim
  case clr => exact h.elim

theorem OpI.imp {op : IOp} {d : Option Nat} {k k' : Env → Heap → Prop} (h : OpI P op d env nv σ k) (hk : ∀ e s, k e s → k' e s) : OpI P op d env nv σ k' := by
  cases op <;> first
    | exact Holds.imp h fun v hv => hk _ _ hv
    | skip
  case store r sz p v =>
    cases r with
    | some t => exact Holds.imp h fun e' hv => hk _ _ hv
    | none => exact Holds.imp h fun s hv => hk _ _ hv
  case new z => exact fun b hb => hk _ _ (h b hb)
  case hbox x => exact ⟨h.1, fun b hb => hk _ _ (h.2 b hb)⟩
  case bsliceO sz els => exact ⟨h.1, fun b hb => hk _ _ (h.2 b hb)⟩
  case app sz bytes s x =>
    exact Holds.imp h fun d' hd => Holds.imp hd fun xs ⟨h1, h2, h3⟩ => ⟨h1, h2, fun c hc => hk _ _ (h3 c hc)⟩
  case mks sz bytes z l c =>
    exact Holds.imp h fun l hl => Holds.imp hl fun c ⟨h1, h3⟩ => ⟨h1, fun b hb => hk _ _ (h3 b hb)⟩
  case call f as => exact ⟨h.1, h.2.imp fun r s hr => hk _ _ hr⟩
  case callq f as =>
    obtain ⟨h0, f', caps, r, h1, h2, h3⟩ := h
    exact ⟨h0, f', caps, r, h1, h2, hk _ _ h3⟩
  case snil neg x => exact Holds.imp h fun v hv b hb => hk _ _ (hv b hb)
  case cpy => exact h.elim
  case clr => exact h.elim

theorem RunI.imp {l : List IOper} {k k' : Env → Heap → Prop} : ∀ {env : Env} {σ : Heap}, RunI P nv l k env σ → (∀ e s, k e s → k' e s) → RunI P nv l k' env σ := by
  induction l with
  | nil => intro env σ h hk; exact hk _ _ h
  | cons o os ih =>
    intro env σ h hk
    obtain ⟨b, h1, h2, h3⟩ := h
    exact ⟨b, h1, fun hb => (h2 hb).imp fun e s h => ih h hk, fun hb => ih (h3 hb) hk⟩

theorem RunI_agree {l : List IOper} {k : Env → Heap → Prop} : ∀ {env : Env} {σ : Heap}, RunI P nv l k env σ → RunI P nv l (fun e s => k e s ∧ agree (IOper.wrs l) env e) env σ := by
  induction l with
  | nil => intro env σ h; exact ⟨h, agree.refl _ _⟩
  | cons o os ih =>
    intro env σ h
    obtain ⟨b, h1, h2, h3⟩ := h
    refine ⟨b, h1, fun hb => (OpI_agree o.g (h2 hb)).imp fun e s ⟨h, ha⟩ => ?_, fun hb => ?_⟩
    · exact (ih h).imp fun e' s' ⟨g1, g2⟩ => ⟨g1, (ha.mono fun t ht => by simp only [IOper.wrs, List.flatMap_cons, List.mem_append]; exact .inl ht).trans (g2.mono fun t ht => by simp only [IOper.wrs, List.flatMap_cons, List.mem_append]; exact .inr ht)⟩
    · refine (ih (h3 hb)).imp fun e' s' ⟨g1, g2⟩ => ⟨g1, ?_⟩
      refine ((agree.refl _ env).put fun t ht => ?_).trans (g2.mono fun t ht => by simp only [IOper.wrs, List.flatMap_cons, List.mem_append]; exact .inr ht)
      simp [IOper.wrs, IOper.wr, ht]

theorem WpI.imp {c : ICode} : ∀ {Q Q' : IPost} {env : Env} {n : Nat} {σ : Heap}, WpI P c Q env n σ → (∀ x e n s, Q x e n s → Q' x e n s) → WpI P c Q' env n σ := by
  induction c with
  | skip => intro Q Q' env n σ h hq; exact hq _ _ _ _ h
  | region m l => intro Q Q' env n σ h hq; exact RunI.imp h fun e s h => hq _ _ _ _ h
  | seq a b iha ihb =>
    intro Q Q' env n σ h hq
    refine iha h fun x e n s h => ?_
    cases x with
    | normal => exact ihb h hq
    | exit i => exact hq _ _ _ _ h
    | ret => exact hq _ _ _ _ h
  | cond c a b iha ihb =>
    intro Q Q' env n σ h hq
    obtain ⟨t, h1, h2, h3⟩ := h
    exact ⟨t, h1, fun ht => iha (h2 ht) hq, fun ht => ihb (h3 ht) hq⟩
  | block i a ih =>
    intro Q Q' env n σ h hq
    refine ih h fun x e n s h => ?_
    cases x with
    | normal => exact hq _ _ _ _ h
    | ret => exact hq _ _ _ _ h
    | exit j =>
      simp only [blkQ] at h ⊢
      split
      · rename_i hj; rw [if_pos hj] at h; exact hq _ _ _ _ h
      · rename_i hj; rw [if_neg hj] at h; exact hq _ _ _ _ h
  | loop a ih =>
    intro Q Q' env n σ h hq
    intro N hN
    obtain ⟨env0, σ0, I, m, h1, h2, h3, h4⟩ := h N hN
    refine ⟨env0, σ0, I, m, h1, h2, h3, fun env1 nv1 σ1 ha hI => ih (h4 env1 nv1 σ1 ha hI) fun x e n s h => ?_⟩
    cases x with
    | normal => exact h
    | exit i => exact hq _ _ _ _ h
    | ret => exact hq _ _ _ _ h
  | exit i => intro Q Q' env n σ h hq; exact hq _ _ _ _ h
  | ret => intro Q Q' env n σ h hq; exact hq _ _ _ _ h

theorem WpI_agree {c : ICode} : ∀ {Q : IPost} {env : Env} {n : Nat} {σ : Heap}, WpI P c Q env n σ → WpI P c (fun x e n s => Q x e n s ∧ agree (written c) env e) env n σ := by
  induction c with
  | skip => intro Q env n σ h; exact ⟨h, agree.refl _ _⟩
  | region m l => intro Q env n σ h; exact RunI_agree h
  | seq a b iha ihb =>
    intro Q env n σ h
    refine (iha h).imp fun x e n s ⟨h, ha⟩ => ?_
    have ha' : agree (written (.seq a b)) env e := ha.mono fun t ht => by simp [written, ht]
    cases x with
    | normal => exact (ihb h).imp fun x e' n' s' ⟨g1, g2⟩ => ⟨g1, ha'.trans (g2.mono fun t ht => by simp [written, ht])⟩
    | exit i => exact ⟨h, ha'⟩
    | ret => exact ⟨h, ha'⟩
  | cond c a b iha ihb =>
    intro Q env n σ h
    obtain ⟨t, h1, h2, h3⟩ := h
    exact ⟨t, h1, fun ht => (iha (h2 ht)).imp fun x e' n' s' ⟨g1, g2⟩ => ⟨g1, g2.mono fun t ht => by simp [written, ht]⟩,
      fun ht => (ihb (h3 ht)).imp fun x e' n' s' ⟨g1, g2⟩ => ⟨g1, g2.mono fun t ht => by simp [written, ht]⟩⟩
  | block i a ih =>
    intro Q env n σ h
    refine (ih h).imp fun x e n s ⟨h, ha⟩ => ?_
    cases x with
    | normal => exact ⟨h, ha⟩
    | ret => exact ⟨h, ha⟩
    | exit j =>
      simp only [blkQ] at h ⊢
      split
      · rename_i hj; rw [if_pos hj] at h; exact ⟨h, ha⟩
      · rename_i hj; rw [if_neg hj] at h; exact ⟨h, ha⟩
  | loop a ih =>
    intro Q env n σ h
    intro N hN
    obtain ⟨env0, σ0, I, m, h1, h2, h3, h4⟩ := h N hN
    refine ⟨env0, σ0, I, m, h1, h2, h3, fun env1 nv1 σ1 ha hI => (ih (h4 env1 nv1 σ1 ha hI)).imp fun x e n s ⟨h, hb⟩ => ?_⟩
    cases x with
    | normal => exact h
    | exit i => exact ⟨h, (h2.trans ha).trans hb⟩
    | ret => exact ⟨h, (h2.trans ha).trans hb⟩
  | exit i => intro Q env n σ h; exact ⟨h, agree.refl _ _⟩
  | ret => intro Q env n σ h; exact ⟨h, agree.refl _ _⟩

/-! ### Loops -/

theorem loop_gh {a : ICode} {Q : IPost} (I : Nat → Nat → Env → Heap → Prop) (h0 : ∀ N, (∀ b, N ≤ b → s b = none) → ∃ e0 s0 i, GhN N e s e0 s0 ∧ agree (written a) e e0 ∧ I N i e0 s0)
    (hs : ∀ N, (∀ b, N ≤ b → s b = none) → ∀ i e1 n1 s1, I N i e1 s1 → WpI P a (seqQ (fun e' _ s' => ∃ e2 s2, GhE e' s' e2 s2 ∧ agree (written a) e' e2 ∧ ∃ j, j < i ∧ I N j e2 s2) Q) e1 n1 s1) : LoopK P a Q e n s .mk .mk .mk .mk .mk := by
  intro N hN
  obtain ⟨e0, s0, i0, hg, ha, h0⟩ := h0 N hN
  have hs := hs N hN
  have hm : ∀ e s, ∃ m : Nat, (∃ k, I N k e s) → I N m e s ∧ ∀ j, I N j e s → m ≤ j := by
    intro e s
    by_cases hx : ∃ k, I N k e s
    · obtain ⟨k, hk⟩ := least hx
      exact ⟨k, fun _ => hk⟩
    · exact ⟨0, fun h => absurd h hx⟩
  refine ⟨e0, s0, fun e s => ∃ i, I N i e s, fun e s => Classical.choose (hm e s), hg, ha, ⟨i0, h0⟩, fun e1 n1 s1 ha1 hI => ?_⟩
  have h1 := Classical.choose_spec (hm e1 s1) hI
  refine (WpI_agree (hs _ e1 n1 s1 h1.1)).imp fun x e' n' s' ⟨h, hb⟩ => ?_
  cases x with
  | exit i => exact h
  | ret => exact h
  | normal =>
    obtain ⟨e2, s2, g1, g2, j, g3, g4⟩ := h
    have h2 := Classical.choose_spec (hm e2 s2) ⟨j, g4⟩
    exact ⟨e2, s2, g1, (ha1.trans hb).trans g2, ⟨j, g4⟩, Nat.lt_of_le_of_lt (h2.2 _ g4) g3⟩

theorem loop_rule {a : ICode} {Q : IPost} (I : Nat → Env → Heap → Prop) (h0 : ∃ i, I i e s)
    (hs : ∀ i e1 n1 s1, I i e1 s1 → WpI P a (seqQ (fun e' _ s' => ∃ j, j < i ∧ I j e' s') Q) e1 n1 s1) : LoopK P a Q e n s .mk .mk .mk .mk .mk :=
  loop_gh (fun _ => I) (fun N _ => let ⟨i, h⟩ := h0; ⟨e, s, i, (GhE.refl e s).ghN N, agree.refl _ _, h⟩) fun _ _ i e1 n1 s1 hI => (hs i e1 n1 s1 hI).imp fun x e' n' s' h => by
    cases x with
    | normal => exact ⟨e', s', GhE.refl _ _, agree.refl _ _, h⟩
    | exit i => exact h
    | ret => exact h

/-- A loop that counts up. -/
theorem loop_up {a : ICode} {Q : IPost} (N : Nat) (I : Nat → Env → Heap → Prop) (i0 : Nat) (hi : i0 ≤ N) (h0 : I i0 e s)
    (hs : ∀ i e1 n1 s1, i ≤ N → I i e1 s1 → WpI P a (seqQ (fun e' _ s' => i < N ∧ I (i + 1) e' s') Q) e1 n1 s1) : LoopK P a Q e n s .mk .mk .mk .mk .mk := by
  refine loop_rule (fun k e s => ∃ i, i ≤ N ∧ k = N - i ∧ I i e s) ⟨_, i0, hi, rfl, h0⟩ ?_
  rintro k e1 n1 s1 ⟨i, hi, rfl, hI⟩
  refine (hs i e1 n1 s1 hi hI).imp fun x e' n' s' h => ?_
  cases x with
  | exit i => exact h
  | ret => exact h
  | normal => exact ⟨N - (i + 1), by have := h.1; omega, i + 1, by have := h.1; omega, rfl, h.2⟩

/-! ### Calls and returns -/

theorem CallG.pure {f : FuncId} {args : List AV} {r : AV} {k : AV → Heap → Prop} (h : Pure P f args r) (hk : k r σ) : CallK P (.clo f []) args σ k .mk .mk :=
  ⟨f, [], args, σ, fun v s => v = r ∧ s = σ, rfl, by rw [List.append_nil]; exact Gh.refl σ args, h σ, ⟨r, σ, rfl, rfl⟩, by rintro _ _ ⟨rfl, rfl⟩; exact hk⟩

theorem CallQ.pure {f : FuncId} {args : List AV} {r : AV} {k : AV → Prop} (h : Pure P f args r) (hk : k r) : CallqK P (.clo f []) args σ k .mk .mk :=
  ⟨f, [], r, rfl, by rw [List.append_nil]; exact h σ, hk⟩

theorem CallG.calls {f : FuncId} {args : List AV} {R k : AV → Heap → Prop} (h : CallsA P f args σ R) (hx : ∃ r s, R r s) (hk : ∀ r s, R r s → k r s) : CallK P (.clo f []) args σ k .mk .mk :=
  ⟨f, [], args, σ, R, rfl, by rw [List.append_nil]; exact Gh.refl σ args, h, hx, hk⟩

theorem RetG.same {l : List AV} {R : AV → Heap → Prop} (h : R (oneOrTup l) σ) : RetK (some l) σ R .mk .mk := ⟨l, l, σ, rfl, Gh.refl _ _, h⟩

def AV.plain : AV → Bool
  | .box _ _ | .dpt _ _ _ => false
  | _ => true

theorem t0 : resAs env [] = some [] := rfl
theorem t1 {t : Nat} {l : List IRes} : resAs env (.tmp t :: l) = (if (env t).plain = true then some (env t) else none).bind fun a => (resAs env l).map (a :: ·) := by
  simp only [resAs, resA1]
  cases env t <;> rfl
def cellA (sz : Nat) (ag : Bool) : AV → Option AV
  | .box _ e => e.part 0 sz ag
  | _ => none
theorem t2 {t sz : Nat} {ag : Bool} {l : List IRes} : resAs env (.cell t sz ag :: l) = (cellA sz ag (env t)).bind fun a => (resAs env l).map (a :: ·) := by
  simp only [resAs, resA1]
  cases env t <;> rfl
theorem t3 {st sz : Nat} {ag : Bool} {x : AV} : cellA sz ag (.box st x) = x.part 0 sz ag := rfl
theorem t4 {a : AV} : oneOrTup [a] = a := rfl
theorem t5 {a b : AV} {l : List AV} : oneOrTup (a :: b :: l) = .tup (a :: b :: l) := rfl
theorem t6 : oneOrTup [] = .tup [] := rfl

/-- From the walk to the contract of a function that leaves the heap alone. -/
theorem pure_of_wp (hm : P.follows .mixedOrders = true) {f : FuncId} {fn : Func} {B own : List Nat} {ifn : IFn} {args : List AV} {r : AV} (hf : P.funcs[f]? = some fn)
    (hc : compFn P B own fn = some ifn) (hn : args.length ≤ ifn.n) (h : ∀ σ, WpI P ifn.code (retQ ifn.res fun v s => v = r ∧ s = σ) (argE args) 0 σ) : Pure P f args r :=
  fun σ => callsA_of_wp hm hf hc hn (h σ)

theorem part_all {l : List AV} {n : Nat} (h : (AV.agg l).cells.length = n) : AV.part 0 n true (.agg l) = some (.agg l) := by
  have h : l.length = n := h
  subst h
  simp [AV.part]
theorem fa0 (v : Value) : (AV.sc v).flat = true := rfl
theorem fa1 (l : List AV) : (AV.agg l).flat = true := rfl
theorem fa2 (n : Nat) (l : List AV) : (AV.lst n l).flat = true := rfl
theorem fa3  : (AV.nils).flat = true := rfl
theorem fa4 (a b c d : Nat) : (AV.row a b c d).flat = true := rfl
theorem fa5 (a b c : Nat) : (AV.ptr a b c).flat = true := rfl
theorem fa6 (x : AV) (n : Nat) : (AV.ipt x n).flat = true := rfl
theorem fa7 (f : FuncId) (l : List AV) : (AV.clo f l).flat = true := rfl
theorem fa8 (b : Nat) : (AV.mp b).flat = true := rfl
theorem fa9 (t : TypeId) (v : AV) : (AV.ifc t v).flat = true := rfl
theorem fb0 (v : Value) : (AV.sc v).okArg = true := rfl
theorem fb1 (l : List AV) : (AV.agg l).okArg = true := rfl
theorem fb2 (n : Nat) (l : List AV) : (AV.lst n l).okArg = true := rfl
theorem fb3  : (AV.nils).okArg = true := rfl
theorem fb4 (a b c d : Nat) : (AV.row a b c d).okArg = true := rfl
theorem fb5 (a b c : Nat) : (AV.ptr a b c).okArg = true := rfl
theorem fb6 (x : AV) (n : Nat) : (AV.ipt x n).okArg = true := rfl
theorem fb7 (f : FuncId) (l : List AV) : (AV.clo f l).okArg = true := rfl
theorem fb8 (b : Nat) : (AV.mp b).okArg = true := rfl
theorem fb9 (t : TypeId) (v : AV) : (AV.ifc t v).okArg = true := rfl
theorem fc0 (v : Value) : (AV.sc v).plain = true := rfl
theorem fc1 (l : List AV) : (AV.agg l).plain = true := rfl
theorem fc2 (n : Nat) (l : List AV) : (AV.lst n l).plain = true := rfl
theorem fc3  : (AV.nils).plain = true := rfl
theorem fc4 (a b c d : Nat) : (AV.row a b c d).plain = true := rfl
theorem fc5 (a b c : Nat) : (AV.ptr a b c).plain = true := rfl
theorem fc6 (x : AV) (n : Nat) : (AV.ipt x n).plain = true := rfl
theorem fc7 (f : FuncId) (l : List AV) : (AV.clo f l).plain = true := rfl
theorem fc8 (b : Nat) : (AV.mp b).plain = true := rfl
theorem fc9 (t : TypeId) (v : AV) : (AV.ifc t v).plain = true := rfl
theorem fbt (l : List AV) : (AV.tup l).okArg = true := rfl
theorem fct (l : List AV) : (AV.tup l).plain = true := rfl
theorem fcx : AV.any.plain = true := rfl
theorem pl_Dot (x : Dot) : (encDot x).plain = true := rfl
theorem wh_Dot (x : Dot) : AV.part 0 2 true (encDot x) = some (encDot x) := part_all (cl_Dot x)
theorem pl_Undo (x : Undo) : (encUndo x).plain = true := rfl
theorem wh_Undo (x : Undo) : AV.part 0 3 true (encUndo x) = some (encUndo x) := part_all (cl_Undo x)
theorem pl_Val (x : Val) : (encVal x).plain = true := rfl
theorem wh_Val (x : Val) : AV.part 0 3 true (encVal x) = some (encVal x) := part_all (cl_Val x)
theorem pl_Ref (x : Ref) : (encRef x).plain = true := rfl
theorem wh_Ref (x : Ref) : AV.part 0 3 true (encRef x) = some (encRef x) := part_all (cl_Ref x)
theorem pl_Opn (x : Opn) : (encOpn x).plain = true := rfl
theorem wh_Opn (x : Opn) : AV.part 0 7 true (encOpn x) = some (encOpn x) := part_all (cl_Opn x)
theorem pl_Txn (x : Txn) : (encTxn x).plain = true := rfl
theorem wh_Txn (x : Txn) : AV.part 0 6 true (encTxn x) = some (encTxn x) := part_all (cl_Txn x)
theorem pl_Dots (x : Dots) : (encDots x).plain = true := rfl
theorem wh_Dots (x : Dots) : AV.part 0 17 true (encDots x) = some (encDots x) := part_all (cl_Dots x)
theorem pl_State (x : State) : (encState x).plain = true := rfl
theorem wh_State (x : State) : AV.part 0 44 true (encState x) = some (encState x) := part_all (cl_State x)
theorem pl_Know (x : Know) : (encKnow x).plain = true := rfl
theorem wh_Know (x : Know) : AV.part 0 35 true (encKnow x) = some (encKnow x) := part_all (cl_Know x)
theorem pl_Delta (x : Delta) : (encDelta x).plain = true := rfl
theorem wh_Delta (x : Delta) : AV.part 0 3 true (encDelta x) = some (encDelta x) := part_all (cl_Delta x)
theorem pl_Record (x : Record) : (encRecord x).plain = true := rfl
theorem wh_Record (x : Record) : AV.part 0 59 true (encRecord x) = some (encRecord x) := part_all (cl_Record x)
theorem pl_Msg (x : Msg) : (encMsg x).plain = true := rfl
theorem wh_Msg (x : Msg) : AV.part 0 41 true (encMsg x) = some (encMsg x) := part_all (cl_Msg x)
theorem pl_Row (x : Row) : (encRow x).plain = true := rfl
theorem wh_Row (x : Row) : AV.part 0 8 true (encRow x) = some (encRow x) := part_all (cl_Row x)
theorem pl_Vec (x : Vec) : (encVec x).plain = true := rfl
theorem wh_Vec (x : Vec) : AV.part 0 16 true (encVec x) = some (encVec x) := part_all (cl_Vec x)
theorem pl_Redo (x : Redo) : (encRedo x).plain = true := rfl
theorem pl_L {α : Type} (n : Nat) (f : α → AV) (l : List α) : (encL n f l).plain = true := rfl
/-! ### Lists -/

theorem ia_L {α : Type} {n i : Nat} {f : α → AV} {l : List α} : iaddrSA n (i : Int) (encL n f l) = (l[i]?).map fun x => .ipt (f x) 0 := by
  simp only [iaddrSA, encL, List.length_map]
  by_cases h : i < l.length
  · rw [if_pos ⟨by omega, by omega, trivial⟩]
    simp [List.getElem?_eq_getElem h]
  · rw [if_neg (by omega), List.getElem?_eq_none (by omega)]; rfl

theorem ld_i {x : AV} {off sz : Nat} {ag : Bool} : loadA σ sz ag (.ipt x off) = x.part off sz ag := rfl
theorem pt_sc {v : Value} : AV.part 0 1 false (.sc v) = some (.sc v) := rfl
theorem pt_L {α : Type} {n : Nat} {f : α → AV} {l : List α} : AV.part 0 1 false (encL n f l) = some (encL n f l) := rfl

end
end Go.Av

namespace Go.Av
set_option linter.unusedVariables false

def Vec.at (v : Vec) (n : Nat) : Int := v.l.getD n 0
def Redo.at (v : Redo) (n : Nat) : List Dot := v.l.getD n []

theorem part_at {α : Type} {f : α → AV} {l : List α} {n off : Nat} (pre post : List AV) (z : α) (h1 : pre.length = off) (h : n < l.length) : AV.part (off + n) 1 false (.agg (pre ++ (l.map f ++ post))) = some (f (l.getD n z)) := by
  subst h1
  simp only [AV.part, Bool.false_eq_true, if_false]
  rw [List.getElem?_append_right (by omega), Nat.add_sub_cancel_left, List.getElem?_append_left (by simpa using h), List.getElem?_map, List.getElem?_eq_getElem h]
  simp [List.getD_eq_getElem?_getD, List.getElem?_eq_getElem h]

theorem pv0 {v : Vec} {n : Nat} (h : n < 16) : AV.part n 1 false (encVec v) = some (.int (v.at n)) := by
  have := part_at (f := AV.int) (l := v.l) (n := n) (off := 0) [] [] 0 rfl (by rw [v.h]; exact h)
  simpa [encVec, Vec.at] using this
theorem pv1 {x : Dots} {n : Nat} (h : n < 16) : AV.part n 1 false (encDots x) = some (.int (x.V.at n)) := by
  have := part_at (f := AV.int) (l := x.V.l) (n := n) (off := 0) [] [encL 2 encDot x.More] 0 rfl (by rw [x.V.h]; exact h)
  simpa [encDots, Vec.at] using this
theorem pv2 {x : State} {n : Nat} (h : n < 8) : AV.part (36 + n) 1 false (encState x) = some (encL 2 encDot (x.Redo.at n)) := by
  have := part_at (f := encL 2 encDot) (l := x.Redo.l) (n := n) (off := 36) ([encL 6 encTxn x.Txns, encL 3 encUndo x.Undos] ++ (x.Known.V.l.map AV.int ++ ([encL 2 encDot x.Known.More] ++ (x.Sealed.V.l.map AV.int ++ [encL 2 encDot x.Sealed.More])))) [] [] (by simp [Vec.h]) (by rw [x.Redo.h]; exact h)
  simp only [List.append_assoc, List.cons_append, List.nil_append, List.append_nil] at this
  simp only [encState, Redo.at, List.cons_append, List.nil_append]
  exact this
theorem ixA {α : Type} {i : Int} {len : Nat} {x : Option α} (h : 0 ≤ i ∧ i < len) : (if 0 ≤ i ∧ i < (len : Int) then x else none) = x := if_pos h

theorem ixB {α : Type} {i len : Nat} {x : Option α} (h : i < len) : (if i < len then x else none) = x := if_pos h
theorem ixC {α : Type} {i len : Int} {x : Option α} (h : i < len) : (if i < len then x else none) = x := if_pos h
theorem ixD {α : Type} {i len : Int} {x : Option α} (h : i ≤ len) : (if i ≤ len then x else none) = x := if_pos h
theorem ce0 (l : List AV) : (AV.agg l).cells = l := rfl
theorem ce1 (v : Value) : (AV.sc v).cells = [.sc v] := rfl
theorem ce2 (n : Nat) (l : List AV) : (AV.lst n l).cells = [.lst n l] := rfl
theorem ce3 : AV.nils.cells = [.nils] := rfl
theorem ce4 (a b c d : Nat) : (AV.row a b c d).cells = [.row a b c d] := rfl
theorem ce5 (a b c : Nat) : (AV.ptr a b c).cells = [.ptr a b c] := rfl
theorem ce6 (f : FuncId) (l : List AV) : (AV.clo f l).cells = [.clo f l] := rfl
-- of lengths, in numbers without a sign
section
variable {n m k : Nat}
theorem c0 : ((n : Int) ≤ (no_index (OfNat.ofNat k : Int))) = (n ≤ (OfNat.ofNat k : Nat)) := propext (by show ((n : Int) ≤ (k : Int)) ↔ n ≤ k; omega)
theorem c1 : ((n : Int) < (no_index (OfNat.ofNat k : Int))) = (n < (OfNat.ofNat k : Nat)) := propext (by show ((n : Int) < (k : Int)) ↔ n < k; omega)
theorem c2 : ((n : Int) ≥ (no_index (OfNat.ofNat k : Int))) = (n ≥ (OfNat.ofNat k : Nat)) := propext (by show ((n : Int) ≥ (k : Int)) ↔ n ≥ k; omega)
theorem c3 : ((n : Int) > (no_index (OfNat.ofNat k : Int))) = (n > (OfNat.ofNat k : Nat)) := propext (by show ((n : Int) > (k : Int)) ↔ n > k; omega)
theorem c4 : ((n : Int) = (no_index (OfNat.ofNat k : Int))) = (n = (OfNat.ofNat k : Nat)) := propext (by show ((n : Int) = (k : Int)) ↔ n = k; omega)
theorem c5 : ((n : Int) ≤ (m : Int)) = (n ≤ m) := propext (by omega)
theorem c6 : ((n : Int) < (m : Int)) = (n < m) := propext (by omega)
theorem c7 : ((n : Int) ≥ (m : Int)) = (n ≥ m) := propext (by omega)
theorem c8 : ((n : Int) > (m : Int)) = (n > m) := propext (by omega)
theorem c9 : ((n : Int) = (m : Int)) = (n = m) := propext (by omega)
end

theorem CondK_dec' {p : Prop} [Decidable p] {A B : Prop} {l : Lock A} {l' : Lock B} (h1 : p → A) (h2 : ¬ p → B) : CondK (.bool (decide p)) A B l l' := by
  rw [CondK_dec]; exact ⟨h1, h2⟩
end Go.Av

namespace Go.Av
set_option linter.unusedVariables false

/-! ### Ghost steps: a row is let go -/

/-- Rows of a block that is let go are lists. -/
def frz (b sz : Nat) (es : List AV) : AV → AV
  | .row sz' b' lo n => if b' = b ∧ sz' = sz ∧ lo + n ≤ es.length then .lst sz ((es.drop lo).take n) else .row sz' b' lo n
  | .agg cs => .agg (cs.map (frz b sz es))
  | .tup cs => .tup (cs.map (frz b sz es))
  | .clo f cs => .clo f (cs.map (frz b sz es))
  | .ifc t v => .ifc t (frz b sz es v)
  | a => a

theorem frz_one (b sz : Nat) (es : List AV) (a : AV) : (frz b sz es a).one = a.one := by
  cases a with
  | row sz' b' lo n => simp only [frz]; split <;> rfl
  | _ => simp [frz, AV.one]

section
variable {F K : Nat → Prop} {μ : Nat → Option Spot} {w : World} {σ : Heap} {b sz : Nat} {es : List AV}

/-- What never changes, when a block is let go. -/
def frzF (F : Nat → Prop) (μ : Nat → Option Spot) (b : Nat) (k : Nat) : Prop := F k ∨ ∃ sp, μ b = some sp ∧ sp.k = k

theorem RV_frzF {a : AV} {v : Value} (h : RV F μ w a v) : RV (frzF F μ b) μ w a v := h.mono (fun _ h => .inl h) (fun _ _ h => h) (fun _ _ => rfl)

theorem RV_frz (hi : Inv F K μ σ w) (hb : σ b = some (.row sz es)) {a : AV} {v : Value} (h : RV F μ w a v) : RV (frzF F μ b) μ w (frz b sz es a) v := by
  induction h with
  | any v => simp only [frz]; exact .any v
  | sc v h => simp only [frz]; exact .sc v h
  | agg cs vs hl h1 h ih =>
    simp only [frz]
    refine .agg _ vs (by simpa using hl) (fun i hi => ?_) (fun i hi hj => ?_)
    · rw [List.getElem_map, frz_one]; exact h1 i (by simpa using hi)
    · rw [List.getElem_map]; exact ih i (by simpa using hi) hj
  | tup cs vs hl h ih => simp only [frz]; exact .tup _ vs (by simpa using hl) (fun i hi hj => by rw [List.getElem_map]; exact ih i (by simpa using hi) hj)
  | clo f cs vs hl h ih => simp only [frz]; exact .clo f _ vs (by simpa using hl) (fun i hi hj => by rw [List.getElem_map]; exact ih i (by simpa using hi) hj)
  | ifc t e v h ih => simp only [frz]; exact .ifc t _ v ih
  | nils a => simp only [frz]; exact .nils a
  | lstE sz a cap => simp only [frz]; exact .lstE sz a cap
  | lst sz es k o cap vs hF hc hfl hsz hcell h ih => simp only [frz]; exact RV_frzF (RV.lst sz es k o cap vs hF hc hfl hsz hcell h)
  | ipt e off k o v hF hcell h ih => simp only [frz]; exact RV_frzF (RV.ipt e off k o v hF hcell h)
  | ptr b i off sp hμ => simp only [frz]; exact .ptr b i off sp hμ
  | mp b sp hμ => simp only [frz]; exact .mp b sp hμ
  | rowE sz' b' lo a =>
    simp only [frz]
    split
    · rw [List.take_zero]; exact .lstE sz a 0
    · exact .rowE sz' b' lo a
  | row sz' b' lo n cap sp hμ hsz hn hc =>
    simp only [frz]
    split
    · rename_i hcond
      obtain ⟨rfl, rfl, hle⟩ := hcond
      rcases hi.blk b' _ hb with ⟨_, h0⟩ | ⟨sp', arr, et, h1, h2, h3, h4, h5, h6, vs, v1, v2, v3⟩
      · rw [hμ] at h0; cases h0
      · rw [hμ] at h1; cases h1
        have hlen : ((es.drop lo).take n).length = n := by simp; omega
        have := RV.lst (F := frzF F μ b') (μ := μ) (w := w) sz' ((es.drop lo).take n) sp.k (lo * sp.sz) cap (fun i => vs (lo + i)) (.inr ⟨sp, hμ, rfl⟩) (by omega)
          (fun e he => by
            obtain ⟨i, hi, rfl⟩ := List.getElem_of_mem he
            rw [hlen] at hi
            simp only [List.getElem_take, List.getElem_drop]
            exact (v3 (lo + i) (by omega)).2)
          (fun i hi => v1 _ (by omega))
          (fun i j c hi hj => by
            have := v2 (lo + i) j c (by omega) hj
            rw [hsz, ← Nat.add_assoc, ← Nat.add_mul]
            simp [World.cell?, h2, this])
          (fun i hi => by
            simp only [List.getElem_take, List.getElem_drop]
            exact RV_frzF (v3 (lo + i) (by omega)).1)
        rw [hlen] at this
        exact this
    · exact .row sz' b' lo n cap sp hμ hsz hn hc

theorem Inv_frz (hi : Inv F K μ σ w) (hb : σ b = some (.row sz es)) : Inv (frzF F μ b) K μ (upd σ b none) w := by
  have hne : ∀ {b' : Nat}, (upd σ b none) b' ≠ none → b' ≠ b ∧ σ b' ≠ none := by
    intro b' h
    by_cases hx : b' = b
    · subst hx; simp at h
    · rw [upd_ne _ _ hx] at h; exact ⟨hx, h⟩
  have hb' : σ b ≠ none := by rw [hb]; simp
  refine ⟨fun b' o h => ?_, fun b1 b2 s1 s2 h1 h2 => hi.inj b1 b2 s1 s2 (hne h1).2 (hne h2).2, fun b' sp h1 h2 => ⟨?_, (hi.nof b' sp (hne h1).2 h2).2⟩, fun k hk => ?_, fun k hk => ?_, hi.bdK, ?_⟩
  · have hx := hne (b' := b') (by rw [h]; simp)
    rw [upd_ne _ _ hx.1] at h
    refine (hi.blk b' o h).ext (F' := frzF F μ b) (μ' := μ) (w' := w) (K := K) ⟨rfl, rfl, rfl, fun _ => Nat.le_refl _, Nat.le_refl _, fun _ h => .inl h, fun _ _ h => h, fun _ _ => rfl⟩ (fun _ _ => rfl) id
  · rintro (hF | ⟨sp', h3, h4⟩)
    · exact (hi.nof b' sp (hne h1).2 h2).1 hF
    · exact (hne h1).1 (hi.inj b' b sp sp' (hne h1).2 hb' h2 h3 h4.symm)
  · rintro (hF | ⟨sp', h3, h4⟩)
    · exact hi.sep k hk hF
    · exact (hi.nof b sp' hb' h3).2 (h4 ▸ hk)
  · rcases hk with hF | ⟨sp', h3, h4⟩
    · exact hi.bdF k hF
    · subst h4
      rcases hi.blk b _ hb with ⟨_, h0⟩ | ⟨sp, arr, et, g1, g2, _⟩
      · rw [h3] at h0; cases h0
      · rw [h3] at g1; cases g1
        exact (Array.getElem?_eq_some_iff.1 g2).1
  · obtain ⟨N, hN⟩ := hi.fin
    refine ⟨N, fun b' hb' => ⟨(hN b' hb').1, ?_⟩⟩
    by_cases hx : b' = b
    · subst hx; simp
    · rw [upd_ne _ _ hx]; exact (hN b' hb').2

theorem Gh_frz (hb : σ b = some (.row sz es)) (vs : List AV) : Gh σ vs (upd σ b none) (vs.map (frz b sz es)) := by
  intro F K μ w xs hx hi
  refine ⟨frzF F μ b, μ, ⟨by simpa using hx.1, fun i hi' hj => ?_⟩, Inv_frz hi hb, rfl, rfl, rfl, fun _ => Nat.le_refl _, Nat.le_refl _, fun _ h => .inl h, fun _ _ h => h, fun _ _ => rfl⟩
  rw [List.getElem_map]
  exact RV_frz hi hb (hx.2 i (by simpa using hi') hj)

theorem Gh_trans {σ1 σ2 σ3 : Heap} {a b c : List AV} (h1 : Gh σ1 a σ2 b) (h2 : Gh σ2 b σ3 c) : Gh σ1 a σ3 c := by
  intro F K μ w xs hx hi
  obtain ⟨F', μ', g1, g2, g3⟩ := h1 F K μ w xs hx hi
  obtain ⟨F2, μ2, k1, k2, k3⟩ := h2 F' K μ' w xs g1 g2
  exact ⟨F2, μ2, k1, k2, g3.trans k3⟩

/-- At a function's end a row is let go. -/
theorem RetG_frz {l : List AV} {R : AV → Heap → Prop} (b : Nat) {sz : Nat} {es : List AV} (hb : σ b = some (.row sz es)) (h : RetK (some (l.map (frz b sz es))) (upd σ b none) R .mk .mk) : RetK (some l) σ R .mk .mk := by
  obtain ⟨x, l', σ', h1, h2, h3⟩ := h
  cases h1
  exact ⟨l, l', σ', rfl, Gh_trans (Gh_frz hb l) h2, h3⟩

/-- An empty slice in a slot is told as a row of none. -/
theorem GhN_nil {env : Env} {N t sz : Nat} (h : env t = .nils) : GhN N env σ (upd env t (.row sz N 0 0)) (upd σ N (some (.row sz []))) := by
  refine ⟨fun j => ?_, fun F K μ w xs hN hx hi => ⟨F, μ, fun j => ?_, hi.phantom (hN N (Nat.le_refl _)) sz, Ext.refl F K μ w⟩⟩
  · by_cases hj : j = t
    · subst hj; rw [h, upd_same]; exact ⟨fun _ _ => by simp, fun _ _ _ => by simp⟩
    · rw [upd_ne _ _ hj]; exact AV.alike_refl _
  · by_cases hj : j = t
    · subst hj
      have := hx j
      rw [h] at this
      rw [upd_same]
      generalize xs j = x at this
      cases this with
      | nils a => exact .rowE sz N 0 a
    · rw [upd_ne _ _ hj]; exact hx j

theorem upd_back {β : Type} {f : Nat → Option β} {c : Nat} {x : Option β} (h : f c = none) : upd (upd f c x) c none = f := by
  funext j
  by_cases hj : j = c
  · subst hj; rw [upd_same, h]
  · rw [upd_ne _ _ hj, upd_ne _ _ hj]
theorem upd_upd {β : Type} {f : Nat → Option β} {c : Nat} {x y : Option β} : upd (upd f c x) c y = upd f c y := by
  funext j
  by_cases hj : j = c
  · subst hj; rw [upd_same, upd_same]
  · rw [upd_ne _ _ hj, upd_ne _ _ hj, upd_ne _ _ hj]

end
end Go.Av

namespace Go.Av
set_option linter.unusedVariables false

section
variable {P : Program} {e env : Env} {n nv : Nat} {s σ : Heap}

theorem condD {p : Prop} [Decidable p] {A B : Prop} {l : Lock A} {l' : Lock B} (h1 : p → A) (h2 : ¬ p → B) : CondK (.bool (decide p)) A B l l' := by
  rw [CondK_dec]; exact ⟨h1, h2⟩
theorem condB {b : Bool} {A B : Prop} {l : Lock A} {l' : Lock B} (h1 : b = true → A) (h2 : b = false → B) : CondK (.bool b) A B l l' := by
  rw [CondK_bool]; exact ⟨h1, h2⟩
theorem guardD {p : Prop} [Decidable p] {A B : Prop} {l : Lock A} {l' : Lock B} (h1 : p → A) (h2 : ¬ p → B) : GuardK (some (decide p)) A B l l' := by
  rw [GuardK_dec]; exact ⟨h1, h2⟩
theorem guardB {b : Bool} {A B : Prop} {l : Lock A} {l' : Lock B} (h1 : b = true → A) (h2 : b = false → B) : GuardK (some b) A B l l' := by
  rw [GuardK_bool]; exact ⟨h1, h2⟩

/-- A loop, with what it leaves alone at hand. -/
theorem loop_gh2 {a : ICode} {Q : IPost} (I : Nat → Env → Heap → Prop) (h0 : ∀ N, (∀ b, N ≤ b → s b = none) → ∃ e0 s0 i, GhN N e s e0 s0 ∧ agree (written a) e e0 ∧ I i e0 s0)
    (hs : ∀ i e1 n1 s1, agree (written a) e e1 → I i e1 s1 → WpI P a (seqQ (fun e' _ s' => ∃ j, j < i ∧ I j e' s') Q) e1 n1 s1) : LoopK P a Q e n s .mk .mk .mk .mk .mk := by
  intro N hN
  obtain ⟨e0, s0, i0, hg, ha, h0⟩ := h0 N hN
  have hm : ∀ e s, ∃ m : Nat, (∃ k, I k e s) → I m e s ∧ ∀ j, I j e s → m ≤ j := by
    intro e s
    by_cases hx : ∃ k, I k e s
    · obtain ⟨k, hk⟩ := least hx
      exact ⟨k, fun _ => hk⟩
    · exact ⟨0, fun h => absurd h hx⟩
  refine ⟨e0, s0, fun e s => ∃ i, I i e s, fun e s => Classical.choose (hm e s), hg, ha, ⟨i0, h0⟩, fun e1 n1 s1 ha1 hI => ?_⟩
  have h1 := Classical.choose_spec (hm e1 s1) hI
  refine (WpI_agree (hs _ e1 n1 s1 (ha.trans ha1) h1.1)).imp fun x e' n' s' ⟨h, hb⟩ => ?_
  cases x with
  | exit i => exact h
  | ret => exact h
  | normal =>
    obtain ⟨j, g3, g4⟩ := h
    have h2 := Classical.choose_spec (hm e' s') ⟨j, g4⟩
    exact ⟨e', s', GhE.refl _ _, ha1.trans hb, ⟨j, g4⟩, Nat.lt_of_le_of_lt (h2.2 _ g4) g3⟩

/-- A loop that counts up, and leaves the heap alone. -/
theorem loop_p {a : ICode} {Q : IPost} (N : Nat) (I : Nat → Env → Prop) (i0 : Nat) (hi : i0 ≤ N) (h0 : I i0 e)
    (hs : ∀ i e1 n1, i ≤ N → agree (written a) e e1 → I i e1 → WpI P a (seqQ (fun e' _ s' => s' = s ∧ i < N ∧ I (i + 1) e') Q) e1 n1 s) : LoopK P a Q e n s .mk .mk .mk .mk .mk := by
  refine loop_gh2 (fun k e1 s1 => s1 = s ∧ ∃ i, i ≤ N ∧ k = N - i ∧ I i e1) (fun M _ => ⟨e, s, N - i0, (GhE.refl e s).ghN M, agree.refl _ _, rfl, i0, hi, rfl, h0⟩) ?_
  rintro k e1 n1 s1 ha ⟨rfl, i, hi, rfl, hI⟩
  refine (hs i e1 n1 hi ha hI).imp fun x e' n' s' h => ?_
  cases x with
  | exit i => exact h
  | ret => exact h
  | normal => exact ⟨N - (i + 1), by have := h.2.1; omega, h.1, i + 1, by have := h.2.1; omega, rfl, h.2.2⟩

/-- A loop with a measure of its own, that leaves the heap alone. -/
theorem loop_m {a : ICode} {Q : IPost} (I : Nat → Env → Prop) (i0 : Nat) (h0 : I i0 e)
    (hs : ∀ i e1 n1, agree (written a) e e1 → I i e1 → WpI P a (seqQ (fun e' _ s' => s' = s ∧ ∃ j, j < i ∧ I j e') Q) e1 n1 s) : LoopK P a Q e n s .mk .mk .mk .mk .mk := by
  refine loop_gh2 (fun k e1 s1 => s1 = s ∧ I k e1) (fun M _ => ⟨e, s, i0, (GhE.refl e s).ghN M, agree.refl _ _, rfl, h0⟩) ?_
  rintro k e1 n1 s1 ha ⟨rfl, hI⟩
  refine (hs k e1 n1 ha hI).imp fun x e' n' s' h => ?_
  cases x with
  | exit i => exact h
  | ret => exact h
  | normal => exact ⟨h.2.choose, h.2.choose_spec.1, h.1, h.2.choose_spec.2⟩

/-- A slot that holds a row of the function's own. -/
def Own1 (s : Heap) (e : Env) (s1 : Heap) (t sz c : Nat) (es : List AV) : Prop := s c = none ∧ e t = .row sz c 0 es.length ∧ s1 = upd s c (some (.row sz es))

/-- A loop that counts up and appends to a slice that is nil ahead of it. -/
theorem loop_a {a : ICode} {Q : IPost} (N t sz : Nat) (J : Nat → List AV → Env → Prop) (i0 : Nat) (hi : i0 ≤ N) (ht : e t = .nils) (hw : t ∈ written a) (h0 : ∀ v, J i0 [] (upd e t v))
    (hs : ∀ i e1 n1 c es, i ≤ N → s c = none → agree (written a) e e1 → e1 t = .row sz c 0 es.length → J i es e1 →
      WpI P a (seqQ (fun e' _ s' => i < N ∧ ∃ c' es', s c' = none ∧ e' t = .row sz c' 0 es'.length ∧ s' = upd s c' (some (.row sz es')) ∧ J (i + 1) es' e') Q) e1 n1 (upd s c (some (.row sz es)))) :
    LoopK P a Q e n s .mk .mk .mk .mk .mk := by
  refine loop_gh2 (fun k e1 s1 => ∃ i c es, i ≤ N ∧ k = N - i ∧ s c = none ∧ e1 t = .row sz c 0 es.length ∧ s1 = upd s c (some (.row sz es)) ∧ J i es e1)
    (fun M hM => ⟨upd e t (.row sz M 0 0), upd s M (some (.row sz [])), N - i0, GhN_nil ht, ?_, i0, M, [], hi, rfl, hM M (Nat.le_refl _), upd_same _ _ _, rfl, h0 _⟩) ?_
  · intro j hj; exact upd_ne _ _ (fun ej => hj (ej ▸ hw))
  · rintro k e1 n1 s1 ha ⟨i, c, es, hi, rfl, hc, h1, rfl, hJ⟩
    refine (hs i e1 n1 c es hi hc ha h1 hJ).imp fun x e' n' s' h => ?_
    cases x with
    | exit i => exact h
    | ret => exact h
    | normal =>
      obtain ⟨g1, c', es', g2, g3, g4, g5⟩ := h
      exact ⟨N - (i + 1), by omega, i + 1, c', es', by omega, rfl, g2, g3, g4, g5⟩

theorem app_row {sz bytes c : Nat} {es xs : List AV} {src : AV} {k : AV → Heap → Prop} {l : Lock (upd σ c (some (.row sz es)))} {l' : Lock k} (hc : σ c = none)
    (hx : appSrc (upd σ c (some (.row sz es))) sz src = some xs) (hb : (es.length + xs.length) * bytes ≤ 140737488355328) (hm : es.length + xs.length ≤ 140737488355328)
    (hk : ∀ c', σ c' = none → k (.row sz c' 0 (es ++ xs).length) (upd σ c' (some (.row sz (es ++ xs))))) : AppK sz bytes (.row sz c 0 es.length) src (upd σ c (some (.row sz es))) k l l' := by
  refine ⟨(es, some c), ?_, xs, hx, hb, by simp only [maxLen]; omega, fun c' h' => ?_⟩
  · simp [appDst, rowOf]
  · have hne : c' ≠ c := fun e => by subst e; simp at h'
    rw [upd_ne _ _ hne] at h'
    simp only [killB]
    rw [upd_back hc, ← List.length_append]
    exact hk c' h'

theorem app_nil {sz bytes : Nat} {xs : List AV} {src : AV} {k : AV → Heap → Prop} {l : Lock σ} {l' : Lock k}
    (hx : appSrc σ sz src = some xs) (hb : xs.length * bytes ≤ 140737488355328) (hm : xs.length ≤ 140737488355328)
    (hk : ∀ c', σ c' = none → k (.row sz c' 0 xs.length) (upd σ c' (some (.row sz xs)))) : AppK sz bytes .nils src σ k l l' := by
  refine ⟨([], none), rfl, xs, hx, by simpa using hb, by simp only [maxLen, List.length_nil]; omega, fun c' h' => ?_⟩
  simp only [killB, List.length_nil, Nat.zero_add, List.nil_append]
  exact hk c' h'

theorem src_lst {sz : Nat} {l : List AV} : appSrc σ sz (.lst sz l) = some l := by simp [appSrc]
theorem src_L {α : Type} {sz : Nat} {f : α → AV} {l : List α} : appSrc σ sz (encL sz f l) = some (l.map f) := by simp [appSrc, encL]

/-- At the end, a row of one's own is let go. -/
theorem ret_row {sz c : Nat} {es : List AV} {R : AV → Heap → Prop} {l : Lock (upd σ c (some (.row sz es)))} {l' : Lock R} (hc : σ c = none) (h : R (.lst sz es) σ) :
    RetK (some [.row sz c 0 es.length]) (upd σ c (some (.row sz es))) R l l' := by
  refine RetG_frz (l := [.row sz c 0 es.length]) c (upd_same _ _ _) ?_
  rw [upd_back hc]
  refine RetG.same ?_
  simpa [frz, oneOrTup] using h
end
end Go.Av

namespace Go.Av
set_option linter.unusedVariables false
set_option linter.defProp false
theorem getE {α : Type} {l : List α} {i : Nat} (h : i < l.length) : l[i]? = some l[i] := List.getElem?_eq_getElem h
theorem asB_ {b : Bool} : asB (.bool b) = some b := rfl
theorem asI_ {k : IntKind} {n : Int} : asI (.sc (.int k n)) = some n := rfl
theorem nilA_1 {b i o : Nat} : nilA false (.ptr b i o) = some false := rfl
theorem nilA_2 {x : AV} {o : Nat} : nilA false (.ipt x o) = some false := rfl
theorem nilA_3 : nilA false (.sc (.pointer none)) = some true := rfl
theorem nilA_4 {f : FuncId} {l : List AV} : nilA true (.clo f l) = some false := rfl
theorem nilA_5 : nilA true (.sc .nilFunc) = some true := rfl
theorem nilA_6 {x : AV} {o : Nat} : nilcA (.ipt x o) = some (.ipt x o) := rfl
theorem notA_ {b : Bool} : notA (.bool b) = some (.bool !b) := rfl
theorem fillA_0 {l : List AV} : fillA l [] = some l := rfl
theorem fillA_1 {l : List AV} {off sz : Nat} {v : AV} {r : List (Nat × Nat × AV)} : fillA l ((off, sz, v) :: r) = if v.flat = true ∧ v.cells.length = sz ∧ off + sz ≤ l.length then fillA (over l off v.cells) r else none := rfl
theorem lenA_1 {n : Nat} {l : List AV} : lenA (.lst n l) = some (l.length : Int) := rfl
theorem lenA_2 : lenA .nils = some 0 := rfl
theorem lenA_3 {a b c d : Nat} : lenA (.row a b c d) = some (d : Int) := rfl
theorem lenA_4 {α : Type} {n : Nat} {f : α → AV} {l : List α} : lenA (encL n f l) = some (l.length : Int) := by simp [lenA, encL]
theorem slenA_ {s : ByteArray} : slenA (.str s) = some (s.size : Int) := rfl
theorem loadB_ {t t' st off sz : Nat} {ag : Bool} {x : AV} : loadB t (.box st x) sz ag (.dpt t' st off) = if t' = t then x.part off sz ag else none := by simp [loadB, boxOf]
theorem addB_ {t t' st off n : Nat} {x : AV} : addB t (.box st x) n (.dpt t' st off) = if t' = t then some (.dpt t' st (off + n)) else none := by simp [addB, boxOf]
theorem addA_1 {x : AV} {o n : Nat} : addA n (.ipt x o) = some (.ipt x (o + n)) := rfl
theorem addA_2 {b i o n : Nat} : addA n (.ptr b i o) = some (.ptr b i (o + n)) := rfl
theorem boxOf_ {st : Nat} {x : AV} : boxOf st (.box st x) = some x := by simp [boxOf]
theorem storeB_ {t t' st off sz : Nat} {x v : AV} : storeB t (.box st x) sz v (.dpt t' st off) = if t' = t ∧ v.flat = true ∧ v.cells.length = sz then (x.setPart off v.cells).map fun e' => .box st e' else none := by simp [storeB, boxOf]

def PB :=
  And.intro @w0 <| And.intro @w1 <| And.intro @w2 <| And.intro @w3 <| And.intro @w4 <| And.intro @w5 <| And.intro @w6 <| And.intro @w7 <| And.intro @q0 <| And.intro @q1 <| And.intro @q2 <| And.intro @q3 <| And.intro @q4 <| And.intro @q5 <| And.intro @q6 <| And.intro @q7 <| And.intro @q8 <| And.intro @r0 <| And.intro @r1 <| And.intro @r2 <| And.intro @e0 <| And.intro @e1 <| And.intro @e2 <| And.intro @e3 <| And.intro @e4 <| And.intro @e6 <| And.intro @e7 <| And.intro @e8 <| And.intro @e9 <| And.intro @o0 <| And.intro @o1 <| And.intro @o2 <| And.intro @o3 <| And.intro @o4 <| And.intro @o5 <| And.intro @o6 <| And.intro @o7 <| And.intro @o8 <| And.intro @o9 <| And.intro @oa <| And.intro @ob <| And.intro @oc <| And.intro @od <| And.intro @oe <| And.intro @of_ <| And.intro @og <| And.intro @oh <| And.intro @oi <| And.intro @oj <| And.intro @ok <| And.intro @ol <| And.intro @om <| And.intro @on <| And.intro @oo <| And.intro @op <| And.intro @oq <| And.intro @or_ <| And.intro @os <| And.intro @ot <| And.intro @ou <| And.intro @ov <| And.intro @ow <| And.intro @ox <| And.intro @oy <| And.intro @oz <| And.intro @p0 <| And.intro @p1 <| And.intro @p2 <| And.intro @p3 <| And.intro @p4 <| And.intro @p5 <| And.intro @p6 <| And.intro @p7 <| And.intro @p8 <| And.intro @t0 <| And.intro @t1 <| @t2
def QB :=
  And.intro @e5 <| And.intro @g0 <| And.intro @g1 <| And.intro @g2 <| And.intro @t3 <| And.intro @HoldsK_some <| And.intro @GuardK_true <| And.intro @GuardK_false <| And.intro @CondK_true <| And.intro @CondK_false <| And.intro @AndK_true <| And.intro @GuardK_not <| And.intro @CondK_not <| And.intro @b0 <| And.intro @b1 <| And.intro @b2 <| And.intro @b5 <| And.intro @b6 <| And.intro @b7 <| And.intro @b8 <| And.intro @b9 <| And.intro @ba <| And.intro @bb <| And.intro @bc <| And.intro @bd <| And.intro @wr <| And.intro @ia_L <| And.intro @ld_i <| And.intro @pt_sc <| And.intro @pt_L <| And.intro @pv0 <| And.intro @pv1 <| And.intro @pv2 <| And.intro @ce0 <| And.intro @ce1 <| And.intro @ce2 <| And.intro @ce3 <| And.intro @ce4 <| And.intro @ce5 <| And.intro @ce6 <| And.intro @ixA <| And.intro @ixB <| And.intro @ixC <| And.intro @ixD <| And.intro @Int.toNat_natCast <| And.intro @Nat.mul_one <| And.intro @c0 <| And.intro @c1 <| And.intro @c2 <| And.intro @c3 <| And.intro @c4 <| And.intro @c5 <| And.intro @c6 <| And.intro @c7 <| And.intro @c8 <| And.intro @c9 <| And.intro @Nat.zero_add <| And.intro @Nat.add_zero <| And.intro @Bool.not_true <| And.intro @Bool.not_false <| And.intro @Bool.bne_false <| And.intro @Bool.bne_true <| And.intro @decide_true <| And.intro @decide_false <| And.intro @true_and <| And.intro @and_true <| And.intro @Bool.and_true <| And.intro @Bool.and_self <| And.intro @Bool.true_and <| And.intro @Nat.zero_le <| And.intro @Option.map_some.{0,0} <| And.intro @Option.bind_some.{0,0} <| And.intro @Option.map_none.{0,0} <| And.intro @Option.bind_none.{0,0} <| And.intro @if_true.{1} <| And.intro @if_false.{1} <| And.intro @eq_self.{1} <| And.intro @List.map_cons.{0,0} <| And.intro @List.map_nil.{0,0} <| And.intro @List.all_cons.{0} <| And.intro @List.all_nil.{0} <| And.intro @List.length_cons.{0} <| And.intro @List.length_nil.{0} <| And.intro @ge_iff_le.{0} <| And.intro @ne_eq.{1} <| And.intro @not_true_eq_false <| And.intro @not_false_eq_true <| And.intro @decide_not <| And.intro @decide_eq_true_eq <| And.intro @Bool.not_eq_true' <| And.intro @decide_eq_false_iff_not <| And.intro @Classical.not_not <| And.intro @Bool.not_not <| And.intro @getE <| And.intro @asB_ <| And.intro @asI_ <| And.intro @nilA_1 <| And.intro @nilA_2 <| And.intro @nilA_3 <| And.intro @nilA_4 <| And.intro @nilA_5 <| And.intro @nilA_6 <| And.intro @notA_ <| And.intro @fillA_0 <| And.intro @fillA_1 <| And.intro @src_lst <| And.intro @src_L <| And.intro @lenA_1 <| And.intro @lenA_2 <| And.intro @lenA_3 <| And.intro @lenA_4 <| And.intro @slenA_ <| And.intro @loadB_ <| And.intro @addB_ <| And.intro @addA_1 <| And.intro @addA_2 <| And.intro @storeB_ <| @boxOf_
def QC :=
  And.intro @cl_Dot <| And.intro @fl_Dot <| And.intro @ok_Dot <| And.intro @cl_Undo <| And.intro @fl_Undo <| And.intro @ok_Undo <| And.intro @cl_Val <| And.intro @fl_Val <| And.intro @ok_Val <| And.intro @cl_Ref <| And.intro @fl_Ref <| And.intro @ok_Ref <| And.intro @cl_Opn <| And.intro @fl_Opn <| And.intro @ok_Opn <| And.intro @cl_Txn <| And.intro @fl_Txn <| And.intro @ok_Txn <| And.intro @cl_Dots <| And.intro @fl_Dots <| And.intro @ok_Dots <| And.intro @cl_State <| And.intro @fl_State <| And.intro @ok_State <| And.intro @cl_Know <| And.intro @fl_Know <| And.intro @ok_Know <| And.intro @cl_Delta <| And.intro @fl_Delta <| And.intro @ok_Delta <| And.intro @cl_Record <| And.intro @fl_Record <| And.intro @ok_Record <| And.intro @cl_Msg <| And.intro @fl_Msg <| And.intro @ok_Msg <| And.intro @cl_Row <| And.intro @fl_Row <| And.intro @ok_Row <| And.intro @cl_Vec <| And.intro @fl_Vec <| And.intro @ok_Vec <| And.intro @fl_L <| And.intro @on_L <| And.intro @ok_L <| And.intro @ce_L <| And.intro @le_L <| And.intro @pt_Dot0 <| And.intro @pt_Dot1 <| And.intro @pt_Undo0 <| And.intro @pt_Undo1 <| And.intro @pt_Undo2 <| And.intro @pt_Undo3 <| And.intro @pt_Val0 <| And.intro @pt_Val1 <| And.intro @pt_Val2 <| And.intro @pt_Ref0 <| And.intro @pt_Ref1 <| And.intro @pt_Ref2 <| And.intro @pt_Ref3 <| And.intro @pt_Opn0 <| And.intro @pt_Opn1 <| And.intro @pt_Opn2 <| And.intro @pt_Opn3 <| And.intro @pt_Opn4 <| And.intro @pt_Opn5 <| And.intro @pt_Opn6 <| And.intro @pt_Opn7 <| And.intro @pt_Txn0 <| And.intro @pt_Txn1 <| And.intro @pt_Txn2 <| And.intro @pt_Txn3 <| And.intro @pt_Txn4 <| And.intro @pt_Txn5 <| And.intro @pt_Txn6 <| And.intro @pt_Dots0 <| And.intro @pt_Dots1 <| And.intro @pt_State0 <| And.intro @pt_State1 <| And.intro @pt_State2 <| And.intro @pt_State3 <| And.intro @pt_State4 <| And.intro @pt_State5 <| And.intro @pt_State6 <| And.intro @pt_State7 <| And.intro @pt_State8 <| And.intro @pt_Know0 <| And.intro @pt_Know1 <| And.intro @pt_Know2 <| And.intro @pt_Know3 <| And.intro @pt_Know4 <| And.intro @pt_Know5 <| And.intro @pt_Know6 <| And.intro @pt_Delta0 <| And.intro @pt_Delta1 <| And.intro @pt_Delta2 <| And.intro @pt_Record0 <| And.intro @pt_Record1 <| And.intro @pt_Record2 <| And.intro @pt_Record3 <| And.intro @pt_Record4 <| And.intro @pt_Record5 <| And.intro @pt_Record6 <| And.intro @pt_Record7 <| And.intro @pt_Record8 <| And.intro @pt_Record9 <| And.intro @pt_Record10 <| And.intro @pt_Record11 <| And.intro @pt_Record12 <| And.intro @pt_Record13 <| And.intro @pt_Record14 <| And.intro @pt_Record15 <| And.intro @pt_Record16 <| And.intro @pt_Record17 <| And.intro @pt_Record18 <| And.intro @pt_Record19 <| And.intro @pt_Record20 <| And.intro @pt_Record21 <| And.intro @pt_Record22 <| And.intro @pt_Record23 <| And.intro @pt_Record24 <| And.intro @pt_Record25 <| And.intro @pt_Record26 <| And.intro @pt_Record27 <| And.intro @pt_Record28 <| And.intro @pt_Record29 <| And.intro @pt_Msg0 <| And.intro @pt_Msg1 <| And.intro @pt_Msg2 <| And.intro @pt_Msg3 <| And.intro @pt_Msg4 <| And.intro @pt_Msg5 <| And.intro @pt_Msg6 <| And.intro @pt_Msg7 <| And.intro @pt_Msg8 <| And.intro @pt_Msg9 <| And.intro @pt_Msg10 <| And.intro @pt_Msg11 <| And.intro @pt_Msg12 <| And.intro @pt_Msg13 <| And.intro @pt_Msg14 <| And.intro @pt_Row0 <| And.intro @pt_Row1 <| And.intro @pt_Row2 <| And.intro @pt_Row3 <| And.intro @pt_Row4 <| And.intro @pt_Row5 <| And.intro @pt_Row6 <| And.intro @pt_Row7 <| And.intro @pt_Row8 <| And.intro @sp_Dot_R <| And.intro @sp_Dot_N <| And.intro @sp_Undo_D <| And.intro @sp_Undo_N <| And.intro @sp_Val_Kind <| And.intro @sp_Val_N <| And.intro @sp_Val_S <| And.intro @sp_Ref_D <| And.intro @sp_Ref_I <| And.intro @sp_Opn_Kind <| And.intro @sp_Opn_Path <| And.intro @sp_Opn_V <| And.intro @sp_Opn_N <| And.intro @sp_Opn_Seen <| And.intro @sp_Txn_D <| And.intro @sp_Txn_User <| And.intro @sp_Txn_Time <| And.intro @sp_Txn_Thin <| And.intro @sp_Txn_Ops <| And.intro @sp_Dots_V <| And.intro @sp_Dots_More <| And.intro @sp_State_Txns <| And.intro @sp_State_Undos <| And.intro @sp_State_Known <| And.intro @sp_State_Sealed <| And.intro @sp_State_Redo <| And.intro @sp_Know_Known <| And.intro @sp_Know_Undos <| And.intro @sp_Know_Sealed <| And.intro @sp_Delta_Txns <| And.intro @sp_Delta_Undos <| And.intro @sp_Delta_Sealed <| And.intro @sp_Record_Kind <| And.intro @sp_Record_T <| And.intro @sp_Record_User <| And.intro @sp_Record_U <| And.intro @sp_Record_Back <| And.intro @sp_Record_D <| And.intro @sp_Record_S <| And.intro @sp_Msg_Kind <| And.intro @sp_Msg_From <| And.intro @sp_Msg_To <| And.intro @sp_Msg_D <| And.intro @sp_Msg_K <| And.intro @sp_Row_D <| And.intro @sp_Row_User <| And.intro @sp_Row_Time <| And.intro @sp_Row_Ops <| And.intro @sp_Row_Turns <| And.intro @sp_Row_Counts <| And.intro @sp_Row_Fixed <| And.intro @sp_Dot <| And.intro @sp_Undo <| And.intro @sp_Val <| And.intro @sp_Ref <| And.intro @sp_Opn <| And.intro @sp_Txn <| And.intro @sp_Dots <| And.intro @sp_State <| And.intro @sp_Know <| And.intro @sp_Delta <| And.intro @sp_Record <| And.intro @sp_Msg <| And.intro @sp_Row <| And.intro @eq_Dot <| And.intro @eq_Undo <| And.intro @eq_Val <| And.intro @eq_Ref <| @eq_Row
def QD :=
  And.intro @fa0 <| And.intro @fa1 <| And.intro @fa2 <| And.intro @fa3 <| And.intro @fa4 <| And.intro @fa5 <| And.intro @fa6 <| And.intro @fa7 <| And.intro @fa8 <| And.intro @fa9 <| And.intro @fb0 <| And.intro @fb1 <| And.intro @fb2 <| And.intro @fb3 <| And.intro @fb4 <| And.intro @fb5 <| And.intro @fb6 <| And.intro @fb7 <| And.intro @fb8 <| And.intro @fb9 <| And.intro @fc0 <| And.intro @fc1 <| And.intro @fc2 <| And.intro @fc3 <| And.intro @fc4 <| And.intro @fc5 <| And.intro @fc6 <| And.intro @fc7 <| And.intro @fc8 <| And.intro @fc9 <| And.intro @fbt <| And.intro @fct <| And.intro @fcx <| And.intro @pl_Dot <| And.intro @wh_Dot <| And.intro @pl_Undo <| And.intro @wh_Undo <| And.intro @pl_Val <| And.intro @wh_Val <| And.intro @pl_Ref <| And.intro @wh_Ref <| And.intro @pl_Opn <| And.intro @wh_Opn <| And.intro @pl_Txn <| And.intro @wh_Txn <| And.intro @pl_Dots <| And.intro @wh_Dots <| And.intro @pl_State <| And.intro @wh_State <| And.intro @pl_Know <| And.intro @wh_Know <| And.intro @pl_Delta <| And.intro @wh_Delta <| And.intro @pl_Record <| And.intro @wh_Record <| And.intro @pl_Msg <| And.intro @wh_Msg <| And.intro @pl_Row <| And.intro @wh_Row <| And.intro @pl_Vec <| And.intro @wh_Vec <| And.intro @pl_Redo <| @pl_L
end Go.Av

namespace Go.Av
set_option linter.unusedVariables false

/-! Plain models of what the functions compute. -/
def cmpI (a b : Int) : Int := if a < b then -1 else if a > b then 1 else 0
def cmpDot (a b : Dot) : Int := if a.R ≠ b.R then cmpI a.R b.R else cmpI a.N b.N
def getU (l : List Undo) (d : Dot) : Int := match l.find? (·.D = d) with | some u => u.N | none => 0
theorem getU_nil (d : Dot) : getU [] d = 0 := rfl
theorem getU_cons (u : Undo) (l : List Undo) (d : Dot) : getU (u :: l) d = if u.D = d then u.N else getU l d := by
  unfold getU
  by_cases h : u.D = d <;> simp [List.find?_cons, h]
def dotRight (d : Dot) : Bool := decide (0 ≤ d.R ∧ d.R ≤ 15 ∧ 1 ≤ d.N ∧ d.N ≤ 1048576)
def pathShort (p : List ByteArray) : Bool := decide (p.length ≤ 12) && p.all fun s => decide (s.size ≤ 120)
def opShort (o : Opn) : Bool := pathShort o.Path && decide (o.V.S.size ≤ 200) && decide (o.Seen.length ≤ 300)
def txnShort (t : Txn) : Bool := decide (t.Ops.length ≤ 20) && t.Ops.all opShort
def stateShort (s : State) : Bool :=
  decide (s.Txns.length ≤ 20) && decide (s.Undos.length ≤ 100) && decide (s.Known.More.length ≤ 100) && decide (s.Sealed.More.length ≤ 100) &&
  s.Txns.all txnShort && (List.range 8).all fun u => decide ((s.Redo.at u).length ≤ 40)
def okTxn (t : Txn) : Prop := t.Ops.length ≤ 9223372036854775807 ∧ ∀ o ∈ t.Ops, o.Path.length ≤ 9223372036854775807
def vecRight (v : Vec) : Bool := (List.range 16).all fun i => decide (0 ≤ v.at i ∧ v.at i ≤ 1048576)
theorem range_step {i n : Nat} (h : i < n) : List.range' i (n - i) = i :: List.range' (i + 1) (n - (i + 1)) := by
  rw [show n - i = (n - (i + 1)) + 1 by omega, List.range'_succ]
def vecHas (v : Vec) (d : Dot) : Bool := dotRight d && decide (d.N ≤ v.at d.R.toNat)
def dotsHas (s : Dots) (d : Dot) : Bool := vecHas s.V d || decide (d ∈ s.More)
def undoOne (u : Undo) : Bool := dotRight u.D && decide (1 ≤ u.N ∧ u.N ≤ 64)
/-- Neighbours stand so. -/
def nbr {α : Type} (f : α → α → Bool) : List α → Bool
  | a :: b :: l => f a b && nbr f (b :: l)
  | _ => true
theorem nbr_drop {α : Type} {f : α → α → Bool} {l : List α} {i : Nat} (h : i + 1 < l.length) : nbr f (l.drop i) = (f l[i] l[i + 1] && nbr f (l.drop (i + 1))) := by
  rw [List.drop_eq_getElem_cons (by omega), List.drop_eq_getElem_cons h]; rfl
theorem nbr_end {α : Type} {f : α → α → Bool} {l : List α} {i : Nat} (h : l.length ≤ i + 1) : nbr f (l.drop i) = true := by
  have : (l.drop i).length ≤ 1 := by simp; omega
  revert this
  generalize l.drop i = x
  intro h
  match x, h with
  | [], _ => rfl
  | [a], _ => rfl
def txnsRise (l : List Txn) : Bool := nbr (fun a b => decide (cmpDot a.D b.D = -1)) l
def zeroVal : Val := ⟨0, 0, ⟨#[]⟩⟩
theorem zv : AV.agg [.int 0, .int 0, .str ⟨#[]⟩] = encVal zeroVal := rfl
def cmpRef (a b : Ref) : Int := if cmpDot a.D b.D ≠ 0 then cmpDot a.D b.D else cmpI a.I b.I
def undosRight (l : List Undo) : Bool := l.all undoOne && nbr (fun a b => decide (cmpDot a.D b.D = -1)) l
/-- What is asked from a place on: each one, and that it stands so behind the one before. -/
def chk {α : Type} (p : α → Bool) (f : α → α → Bool) (l : List α) (i : Nat) : Bool := (l.drop i).all p && nbr f (l.drop (i - 1))
theorem chk_step {α : Type} {p : α → Bool} {f : α → α → Bool} {l : List α} {i : Nat} (h : i < l.length) :
    chk p f l i = (p l[i] && (if h0 : 0 < i then f (l[i - 1]'(by omega)) l[i] else true) && chk p f l (i + 1)) := by
  unfold chk
  rw [List.drop_eq_getElem_cons h, List.all_cons]
  by_cases h0 : 0 < i
  · rw [dif_pos h0]
    have := nbr_drop (f := f) (l := l) (i := i - 1) (by omega)
    rw [this]
    simp only [show i - 1 + 1 = i by omega, Nat.add_sub_cancel]
    cases p l[i] <;> cases f (l[i - 1]'(by omega)) l[i] <;> cases (List.drop (i + 1) l).all p <;> simp
  · have : i = 0 := by omega
    subst this
    simp [Bool.and_assoc]
theorem chk_end {α : Type} {p : α → Bool} {f : α → α → Bool} {l : List α} {i : Nat} (h : l.length ≤ i) : chk p f l i = true := by
  unfold chk
  rw [List.drop_eq_nil_of_le h, nbr_end (by omega)]; rfl
def opGone (o : Opn) : Bool := decide (o.Kind = 0) && decide (o.Path.length = 0) && decide (o.V = zeroVal) && decide (o.N = 0) && decide (o.Seen.length = 0)
def refOk (x : Ref) : Bool := dotRight x.D && decide (0 ≤ x.I ∧ x.I ≤ 15)
def refsRight (l : List Ref) : Bool := l.all refOk && nbr (fun a b => decide (cmpRef a b = -1)) l
def cmpTxn (a b : Txn) : Int := if a.Time < b.Time then -1 else if a.Time > b.Time then 1 else cmpDot a.D b.D

def bAt (s : ByteArray) (i : Nat) : Int := if h : i < s.size then (s[i].toNat : Int) else 0
theorem bAt_ge (s : ByteArray) (i : Nat) : 0 ≤ bAt s i := by unfold bAt; split <;> omega
theorem bAt_lt (s : ByteArray) (i : Nat) : bAt s i ≤ 255 := by
  unfold bAt; split
  · have := UInt8.toNat_lt s[i]; omega
  · omega
theorem sx_b {s : ByteArray} {i : Nat} (h : i < s.size) : sidxA (i : Int) (.str s) = some (.sc (.int .u8 (bAt s i))) := by
  simp only [sidxA, bAt]
  rw [dif_pos ⟨by omega, by simpa using h⟩, dif_pos h]; rfl
theorem sx_0 {s : ByteArray} (h : 0 < s.size) : sidxA 0 (.str s) = some (.sc (.int .u8 (bAt s 0))) := sx_b (i := 0) h
theorem cv_b (s : ByteArray) (i : Nat) : IntKind.i64.wrap (bAt s i) = bAt s i := wr (by have := bAt_ge s i; omega) (by have := bAt_lt s i; omega)
theorem cvi_ {k k' : IntKind} {n : Int} : cviA k (.sc (.int k' n)) = some (.sc (.int k (k.wrap n))) := rfl
theorem ssl_a {s : ByteArray} {lo : Nat} (h : lo ≤ s.size) : sslcA (some (.int (lo : Int))) none (.str s) = some (.str (s.extract lo s.size)) := by
  simp only [sslcA, bndA, asI, Option.bind_some]
  rw [if_pos (by omega)]; simp
theorem ssl_b {s : ByteArray} {lo hi : Nat} (h : lo ≤ hi) (h2 : hi ≤ s.size) : sslcA (some (.int (lo : Int))) (some (.int (hi : Int))) (.str s) = some (.str (s.extract lo hi)) := by
  simp only [sslcA, bndA, asI, Option.bind_some]
  rw [if_pos (by omega)]; simp
theorem ssl_c {s : ByteArray} {hi : Nat} (h2 : hi ≤ s.size) : sslcA none (some (.int (hi : Int))) (.str s) = some (.str (s.extract 0 hi)) := by
  simp only [sslcA, bndA, asI, Option.bind_some]
  rw [if_pos (by omega)]; simp

/-! ### Characters -/
def charCont (s : ByteArray) : Nat → Nat → Int → Option Int
  | 0, _, c => some c
  | k + 1, i, c => if bAt s i < 128 ∨ bAt s i > 191 then none else charCont s k (i + 1) (64 * c + bAt s i - 128)
def charHead (c : Int) : Option (Nat × Int × Int) :=
  if c < 128 then none else if 194 ≤ c ∧ c < 224 then some (2, 128, c - 192) else if 224 ≤ c ∧ c < 240 then some (3, 2048, c - 224) else if 240 ≤ c ∧ c < 245 then some (4, 65536, c - 240) else none
def charR (s : ByteArray) : Int × Int :=
  if s.size = 0 then (0, 0) else if bAt s 0 < 128 then (bAt s 0, 1) else
  match charHead (bAt s 0) with
  | none => (0, 0)
  | some (n, least, c0) =>
    if s.size < n then (0, 0) else
    match charCont s (n - 1) 1 c0 with
    | none => (0, 0)
    | some c => if c < least ∨ c > 1114111 ∨ (55296 ≤ c ∧ c ≤ 57343) then (0, 0) else (c, n)

def runesR (s : ByteArray) : Nat → Nat → List Int → Option (List Int)
  | 0, _, out => some out
  | f + 1, i, out => if i < s.size then (if (charR (s.extract i s.size)).2 = 0 then none else runesR s f (i + (charR (s.extract i s.size)).2.toNat) (out ++ [(charR (s.extract i s.size)).1])) else some out
def runes (s : ByteArray) : Option (List Int) := runesR s (s.size + 1) 0 []
def mayR (c : Int) : Bool := decide (32 ≤ c ∧ (c < 127 ∨ c > 159) ∧ c ≠ 65533)
def nameRight (s : ByteArray) : Bool := match runes s with | some l => l.all mayR && decide (1 ≤ l.length) && decide (l.length ≤ 24) | none => false
def emp : ByteArray := ⟨#[]⟩
def valRight (v : Val) : Bool :=
  if v.Kind = 1 then decide (v.S = emp) && decide (-2147483647 ≤ v.N) && decide (v.N ≤ 2147483647)
  else if v.Kind = 2 then decide (v.N = 0) && (runes v.S).isSome && decide (v.S.size ≤ 64)
  else decide (v.Kind = 3) && decide (v.S = emp) && decide (0 ≤ v.N) && decide (v.N ≤ 1)
def pathCheck (p : List ByteArray) : Int := if p.length = 0 then 8 else if p.length > 8 then 9 else if p.all nameRight then 0 else 8
def opCheck (o : Opn) : Int :=
  if o.Kind < 1 ∨ o.Kind > 5 then 18 else
  if pathCheck o.Path ≠ 0 then pathCheck o.Path else
  if (o.Kind = 3 ∨ o.Kind = 5) ∧ o.V ≠ zeroVal then 2 else
  if o.Kind ≠ 3 ∧ o.Kind ≠ 5 ∧ valRight o.V = false then 2 else
  if o.Kind ≠ 3 ∧ o.N ≠ 0 ∨ o.Kind = 3 ∧ (o.N = 0 ∨ o.N > 2147483647 ∨ o.N < -2147483647) then 2 else
  if (o.Kind = 2 ∨ o.Kind = 3) ∧ o.Seen.length > 0 then 2 else
  if o.Seen.length > 256 then 7 else
  if refsRight o.Seen then 0 else 2
def opsCheck (thin : Bool) : List Opn → Int
  | [] => 0
  | o :: l => if opCheck o ≠ 0 ∧ ¬ (thin = true ∧ opGone o = true) then opCheck o else opsCheck thin l
def txnCheck (t : Txn) : Int :=
  if dotRight t.D = false ∨ t.User < 0 ∨ t.User > 7 ∨ t.Time < 1 ∨ t.Time > 1099511627776 then 2 else
  if t.Ops.length = 0 then 11 else if t.Ops.length > 16 then 7 else opsCheck t.Thin t.Ops

/-! ### Sets of dots -/
def Vec.set (v : Vec) (n : Nat) (x : Int) : Vec := ⟨v.l.set n x, by simp [v.h]⟩
def dotIn (s : Dots) (d : Dot) : Bool := dotRight d && decide (s.V.at d.R.toNat < d.N - 1)
def dotsRight (s : Dots) : Bool := vecRight s.V && decide (s.More.length ≤ 4096) && (s.More.all (dotIn s) && nbr (fun a b => decide (cmpDot a b = -1)) s.More)
def insDot (d : Dot) : List Dot → List Dot
  | [] => [d]
  | x :: l => if cmpDot d x < 0 then d :: x :: l else x :: insDot d l
def fill1 (s : Dots) (d : Dot) : Dots :=
  if d.N = s.V.at d.R.toNat + 1 then ⟨s.V.set d.R.toNat d.N, s.More⟩ else if d.N > s.V.at d.R.toNat then ⟨s.V, s.More ++ [d]⟩ else s
def filledD (v : Vec) (l : List Dot) : Dots := l.foldl fill1 ⟨v, []⟩
def dotsPut (s : Dots) (d : Dot) : Dots := if dotRight d = false ∨ dotsHas s d = true then s else filledD s.V (insDot d s.More)
def vec0 : Vec := ⟨List.replicate 16 0, rfl⟩
def dots0 : Dots := ⟨vec0, []⟩
def knownR (l : List Txn) : Dots := l.foldl (fun s t => dotsPut s t.D) dots0
def dotsSame (a b : Dots) : Bool := decide (a.V.l = b.V.l) && decide (a.More = b.More)
def stateRight (s : State) : Bool :=
  decide (s.Txns.length ≤ 1000) && txnsRise s.Txns && undosRight s.Undos && dotsRight s.Sealed && (s.Txns.all fun t => decide (txnCheck t = 0)) &&
  ((List.range 8).all fun u => decide ((s.Redo.at u).length ≤ 1000) && (s.Redo.at u).all dotRight) && dotsRight s.Known && dotsSame s.Known (knownR s.Txns)
def stateGood (s : State) : Bool := stateShort s && stateRight s

/-! ### Bounds of what can be read -/
def okOp (o : Opn) : Prop := o.Path.length ≤ 9223372036854775807 ∧ (∀ p ∈ o.Path, p.size ≤ 9223372036854775807) ∧ o.V.S.size ≤ 9223372036854775807 ∧ o.Seen.length ≤ 9223372036854775807
def okTx (t : Txn) : Prop := t.Ops.length ≤ 9223372036854775807 ∧ ∀ o ∈ t.Ops, okOp o
def okState (s : State) : Prop := s.Txns.length ≤ 9223372036854775807 ∧ (∀ t ∈ s.Txns, okTx t) ∧ s.Undos.length ≤ 9223372036854775807 ∧ s.Known.More.length ≤ 9223372036854775807 ∧
  s.Sealed.More.length ≤ 9223372036854775807 ∧ ∀ u, (s.Redo.at u).length ≤ 9223372036854775807
theorem okTx.ok {t : Txn} (h : okTx t) : okTxn t := ⟨h.1, fun o ho => (h.2 o ho).1⟩

/-! ### Small ones -/
def smOp (o : Opn) : Prop := o.Path.length ≤ 1000000 ∧ (∀ p ∈ o.Path, p.size ≤ 1000000) ∧ o.V.S.size ≤ 1000000 ∧ o.Seen.length ≤ 1000000
def smTxn (t : Txn) : Prop := t.Ops.length ≤ 1000000 ∧ ∀ o ∈ t.Ops, smOp o
def smState (s : State) : Prop := s.Txns.length ≤ 1000000 ∧ (∀ t ∈ s.Txns, smTxn t) ∧ s.Undos.length ≤ 1000000 ∧ s.Known.More.length ≤ 1000000 ∧ s.Sealed.More.length ≤ 1000000 ∧ ∀ u, u < 8 → (s.Redo.at u).length ≤ 1000000
theorem smOp_of {o : Opn} (h : opShort o = true) : smOp o := by
  simp only [opShort, pathShort, Bool.and_eq_true, decide_eq_true_eq, List.all_eq_true] at h
  exact ⟨by omega, fun p hp => by have := h.1.1.2 p hp; omega, by omega, by omega⟩
theorem smTxn_of {t : Txn} (h : txnShort t = true) : smTxn t := by
  simp only [txnShort, Bool.and_eq_true, decide_eq_true_eq, List.all_eq_true] at h
  exact ⟨by omega, fun o ho => smOp_of (h.2 o ho)⟩
theorem smState_of {s : State} (h : stateShort s = true) : smState s := by
  simp only [stateShort, Bool.and_eq_true, decide_eq_true_eq, List.all_eq_true, List.mem_range] at h
  exact ⟨by omega, fun t ht => smTxn_of (h.1.2 t ht), by omega, by omega, by omega, fun u hu => by have := h.2 u hu; omega⟩
theorem charCont_bd {s : ByteArray} : ∀ {k i : Nat} {c c' : Int}, charCont s k i c = some c' → 0 ≤ c → 0 ≤ c'
  | 0, i, c, c', h, hc => by simp [charCont] at h; omega
  | k + 1, i, c, c', h, hc => by
    rw [charCont] at h
    split at h
    · cases h
    · have := bAt_ge s i
      exact charCont_bd h (by omega)
theorem charR_bd (s : ByteArray) : 0 ≤ (charR s).2 ∧ (charR s).2 ≤ s.size ∧ (charR s).2 ≤ 4 ∧ 0 ≤ (charR s).1 ∧ (charR s).1 ≤ 1114111 := by
  unfold charR
  have b1 := bAt_ge s 0
  split
  · simp
  · split
    · simp; omega
    · split
      · simp
      · rename_i n least c0 hh
        have hn : (n = 2 ∨ n = 3 ∨ n = 4) ∧ 0 ≤ c0 := by
          unfold charHead at hh
          repeat' split at hh
          all_goals first | (cases hh; done) | (simp only [Option.some.injEq, Prod.mk.injEq] at hh; omega)
        split
        · simp
        · split
          · simp
          · rename_i c hc
            have := charCont_bd hc hn.2
            split
            · simp
            · simp; omega
theorem all_step {α : Type} {p : α → Bool} {l : List α} {i : Nat} (h : i < l.length) : (l.drop i).all p = (p l[i] && (l.drop (i + 1)).all p) := by
  rw [List.drop_eq_getElem_cons h, List.all_cons]
theorem all_end {α : Type} {p : α → Bool} {l : List α} {i : Nat} (h : ¬ i < l.length) : (l.drop i).all p = true := by
  rw [List.drop_eq_nil_of_le (by omega)]; rfl
theorem runesR_len {s : ByteArray} : ∀ {f i : Nat} {l l' : List Int}, runesR s f i l = some l' → l.length ≤ i → i ≤ s.size → l'.length ≤ s.size
  | 0, i, l, l', h, h1, h2 => by simp [runesR] at h; subst h; omega
  | f + 1, i, l, l', h, h1, h2 => by
    rw [runesR] at h
    have hb := charR_bd (s.extract i s.size)
    have hz : (s.extract i s.size).size = s.size - i := by simp
    split at h
    · split at h
      · cases h
      · exact runesR_len h (by simp; omega) (by omega)
    · cases h; omega
theorem runes_len (s : ByteArray) : ((runes s).getD []).length ≤ s.size := by
  cases h : runes s with
  | none => simp
  | some l => exact runesR_len h (by simp) (by omega)

end Go.Av

namespace Go.Av
set_option linter.unusedVariables false
set_option linter.unusedSimpArgs false
set_option linter.defProp false

/-! ### What is told weaker: a nil slice is one of no element -/

inductive Le : AV → AV → Prop
  | refl (a : AV) : Le a a
  | nil (sz : Nat) : Le .nils (.lst sz [])
  | row0 (sz b lo sz' : Nat) : Le (.row sz b lo 0) (.lst sz' [])
  | agg (as bs : List AV) (hl : bs.length = as.length) (h1 : ∀ i (hi : i < as.length) (hj : i < bs.length), (as[i]).one = true → (bs[i]).one = true)
      (h : ∀ i (hi : i < as.length) (hj : i < bs.length), Le as[i] bs[i]) : Le (.agg as) (.agg bs)

section
variable {F K : Nat → Prop} {μ : Nat → Option Spot} {w : World} {σ s : Heap} {P : Program} {e env : Env} {n : Nat}

theorem RV_le {a b : AV} {v : Value} (hl : Le a b) : RV F μ w a v → RV F μ w b v := by
  induction hl generalizing v with
  | refl a => exact id
  | nil sz => intro h; cases h; exact .lstE _ _ _
  | row0 sz b lo sz' => intro h; cases h <;> exact .lstE _ _ _
  | agg as bs hl h1 h ih =>
    intro hv
    cases hv with
    | agg _ vs hl' h1' h' =>
      exact .agg bs vs (by omega) (fun i hi => h1 i (by omega) hi (h1' i (by omega))) (fun i hi hj => ih i (by omega) hi (h' i (by omega) hj))

def LeL (as bs : List AV) : Prop := bs.length = as.length ∧ ∀ i (hi : i < as.length) (hj : i < bs.length), Le as[i] bs[i]

theorem LeL.nil : LeL [] [] := ⟨rfl, fun i hi => by simp at hi⟩
theorem LeL.cons {a b : AV} {as bs : List AV} (h : Le a b) (hs : LeL as bs) : LeL (a :: as) (b :: bs) := by
  refine ⟨by simp [hs.1], fun i hi hj => ?_⟩
  cases i with
  | zero => exact h
  | succ i => exact hs.2 i (by simpa using hi) (by simpa using hj)
theorem LeL.refl (as : List AV) : LeL as as := ⟨rfl, fun i _ _ => .refl _⟩
theorem LeL.append {as bs cs ds : List AV} (h : LeL as bs) (k : LeL cs ds) : LeL (as ++ cs) (bs ++ ds) := by
  refine ⟨by simp [h.1, k.1], fun i hi hj => ?_⟩
  by_cases hlt : i < as.length
  · rw [List.getElem_append_left hlt, List.getElem_append_left (by rw [h.1]; exact hlt)]; exact h.2 i hlt (by rw [h.1]; exact hlt)
  · rw [List.getElem_append_right (by omega), List.getElem_append_right (by rw [h.1]; omega)]
    simp only [h.1]
    exact k.2 _ _ _
theorem Le.one {a b : AV} (h : Le a b) (h1 : a.one = true) : b.one = true := by
  cases h with
  | refl => exact h1
  | nil => rfl
  | row0 => rfl
  | agg => simp [AV.one] at h1
theorem Le.ag {as bs : List AV} (h : LeL as bs) : Le (.agg as) (.agg bs) := .agg as bs h.1 (fun i hi hj ho => (h.2 i hi hj).one ho) h.2

theorem Gh_le {vs vs' : List AV} (h : LeL vs vs') : Gh σ vs σ vs' := fun F K μ w xs hx hi =>
  ⟨F, μ, ⟨by rw [hx.1, h.1], fun i hi' hj => RV_le (h.2 i (by rw [← h.1]; exact hi') hi') (hx.2 i (by rw [← h.1]; exact hi') hj)⟩, hi, Ext.refl F K μ w⟩

theorem CallG.le {f : FuncId} {args args' : List AV} {r : AV} {k : AV → Heap → Prop} {l : Lock σ} {l' : Lock k} (h : Pure P f args' r) (ha : LeL args args') (hk : k r σ) : CallK P (.clo f []) args σ k l l' :=
  ⟨f, [], args', σ, fun v s => v = r ∧ s = σ, rfl, by rw [List.append_nil]; exact Gh_le ha, h σ, ⟨r, σ, rfl, rfl⟩, by rintro _ _ ⟨rfl, rfl⟩; exact hk⟩

/-- A call, ahead of which a row of one's own is let go. -/
theorem CallG.frz {f : FuncId} {args args' args2 : List AV} {r : AV} {k : AV → Heap → Prop} {c sz : Nat} {es : List AV} {l : Lock (upd σ c (some (.row sz es)))} {l' : Lock k} (h : Pure P f args2 r) (hc : σ c = none)
    (ha : args.map (frz c sz es) = args') (hl : LeL args' args2) (hk : k r σ) : CallK P (.clo f []) args (upd σ c (some (.row sz es))) k l l' := by
  subst ha
  have hg := Gh_trans (Gh_frz (upd_same σ c (some (.row sz es))) args) (Gh_le (σ := upd (upd σ c (some (.row sz es))) c none) hl)
  rw [upd_back hc] at hg
  exact ⟨f, [], args2, σ, fun v s => v = r ∧ s = σ, rfl, by rw [List.append_nil]; exact hg, h σ, ⟨r, σ, rfl, rfl⟩, by rintro _ _ ⟨rfl, rfl⟩; exact hk⟩

theorem CallG.at {f : FuncId} {args : List AV} {r : AV} {k : AV → Heap → Prop} {l : Lock σ} {l' : Lock k} (h : PureAt P f args σ r) (hk : k r σ) : CallK P (.clo f []) args σ k l l' :=
  ⟨f, [], args, σ, fun v s => v = r ∧ s = σ, rfl, by rw [List.append_nil]; exact Gh.refl σ args, h, ⟨r, σ, rfl, rfl⟩, by rintro _ _ ⟨rfl, rfl⟩; exact hk⟩
theorem CallQ.at {f : FuncId} {args : List AV} {r : AV} {k : AV → Prop} {l : Lock σ} {l' : Lock k} (h : PureAt P f args σ r) (hk : k r) : CallqK P (.clo f []) args σ k l l' :=
  ⟨f, [], r, rfl, by rw [List.append_nil]; exact h, hk⟩
theorem CallG.pc {f : FuncId} {args caps : List AV} {r : AV} {k : AV → Heap → Prop} {l : Lock σ} {l' : Lock k} (h : Pure P f (args ++ caps) r) (hk : k r σ) : CallK P (.clo f caps) args σ k l l' :=
  ⟨f, caps, args ++ caps, σ, fun v s => v = r ∧ s = σ, rfl, Gh.refl σ _, h σ, ⟨r, σ, rfl, rfl⟩, by rintro _ _ ⟨rfl, rfl⟩; exact hk⟩
theorem CallQ.pc {f : FuncId} {args caps : List AV} {r : AV} {k : AV → Prop} {l : Lock σ} {l' : Lock k} (h : Pure P f (args ++ caps) r) (hk : k r) : CallqK P (.clo f caps) args σ k l l' :=
  ⟨f, caps, r, rfl, h σ, hk⟩

theorem RetG.le {l l' : List AV} {R : AV → Heap → Prop} {a : Lock σ} {b : Lock R} (h : LeL l l') (hr : R (oneOrTup l') σ) : RetK (some l) σ R a b := ⟨l, l', σ, rfl, Gh_le h, hr⟩
/-- At the end a row of one's own is let go. -/
theorem RetG.frz {l l1 l2 : List AV} {R : AV → Heap → Prop} {c sz : Nat} {es : List AV} {a : Lock (upd σ c (some (.row sz es)))} {b : Lock R} (hc : σ c = none) (ha : l.map (frz c sz es) = l1) (hl : LeL l1 l2) (hr : R (oneOrTup l2) σ) :
    RetK (some l) (upd σ c (some (.row sz es))) R a b := by
  subst ha
  have hg := Gh_trans (Gh_frz (upd_same σ c (some (.row sz es))) l) (Gh_le (σ := upd (upd σ c (some (.row sz es))) c none) hl)
  rw [upd_back hc] at hg
  exact ⟨l, l2, σ, rfl, hg, hr⟩
/-- .. or forgotten. -/
theorem Gh_drop {c : Nat} (hc : σ c = none) {b : Blk} {vs : List AV} : Gh (upd σ c (some b)) vs σ vs := by
  intro F K μ w xs hx hi
  refine ⟨F, μ, hx, ?_, Ext.refl F K μ w⟩
  have := hi.kill c
  rwa [upd_back hc] at this
theorem RetG.drop {l : List AV} {R : AV → Heap → Prop} {c : Nat} {o : Blk} {a : Lock (upd σ c (some o))} {b : Lock R} (hc : σ c = none) (hr : RetK (some l) σ R .mk .mk) : RetK (some l) (upd σ c (some o)) R a b := by
  obtain ⟨x, l', σ', h1, h2, h3⟩ := hr
  cases h1
  exact ⟨l, l', σ', rfl, Gh_trans (Gh_drop hc) h2, h3⟩

/-! ### Rows in a box of the frame -/

theorem GhN_box {N t st sz : Nat} {x x' : AV} (h : env t = .box st x) (hf : x.flat = true → x'.flat = true) (hx : ∀ F μ w u, RV F μ w x u → RV F μ w x' u) : GhN N env σ (upd env t (.box st x')) (upd σ N (some (.row sz []))) := by
  refine ⟨fun j => ?_, fun F K μ w xs hN hxs hi => ⟨F, μ, fun j => ?_, hi.phantom (hN N (Nat.le_refl _)) sz, Ext.refl F K μ w⟩⟩
  · by_cases hj : j = t
    · subst hj; rw [h, upd_same]; exact ⟨x', rfl, hf⟩
    · rw [upd_ne _ _ hj]; exact AV.alike_refl _
  · by_cases hj : j = t
    · subst hj
      have := hxs j
      rw [h] at this
      rw [upd_same]
      exact hx _ _ _ _ this
    · rw [upd_ne _ _ hj]; exact hxs j

/-- A loop that counts up and appends to a slice that stands in a box, nil ahead of it. -/
theorem loop_b {a : ICode} {Q : IPost} {β : Type} (N t st sz : Nat) (X : β → AV → AV) (J : Nat → β → List AV → Env → Prop) (i0 : Nat) (b0 : β) (hi : i0 ≤ N) (ht : e t = .box st (X b0 .nils)) (hw : t ∈ written a)
    (hfl : ∀ c, (X b0 .nils).flat = true → (X b0 (.row sz c 0 0)).flat = true) (hX : ∀ c F μ w u, RV F μ w (X b0 .nils) u → RV F μ w (X b0 (.row sz c 0 0)) u) (h0 : ∀ v, J i0 b0 [] (upd e t v))
    (hs : ∀ i e1 n1 c b es, i ≤ N → s c = none → agree (written a) e e1 → e1 t = .box st (X b (.row sz c 0 es.length)) → J i b es e1 →
      WpI P a (seqQ (fun e' _ s' => i < N ∧ ∃ c' b' es', s c' = none ∧ e' t = .box st (X b' (.row sz c' 0 es'.length)) ∧ s' = upd s c' (some (.row sz es')) ∧ J (i + 1) b' es' e') Q) e1 n1 (upd s c (some (.row sz es)))) :
    LoopK P a Q e n s .mk .mk .mk .mk .mk := by
  refine loop_gh2 (fun k e1 s1 => ∃ i c b es, i ≤ N ∧ k = N - i ∧ s c = none ∧ e1 t = .box st (X b (.row sz c 0 es.length)) ∧ s1 = upd s c (some (.row sz es)) ∧ J i b es e1)
    (fun M hM => ⟨upd e t (.box st (X b0 (.row sz M 0 0))), upd s M (some (.row sz [])), N - i0, GhN_box ht (hfl M) (hX M), ?_, i0, M, b0, [], hi, rfl, hM M (Nat.le_refl _), upd_same _ _ _, rfl, h0 _⟩) ?_
  · intro j hj; exact upd_ne _ _ (fun ej => hj (ej ▸ hw))
  · rintro k e1 n1 s1 ha ⟨i, c, b, es, hi, rfl, hc, h1, rfl, hJ⟩
    refine (hs i e1 n1 c b es hi hc ha h1 hJ).imp fun x e' n' s' h => ?_
    cases x with
    | exit i => exact h
    | ret => exact h
    | normal =>
      obtain ⟨g1, c', b', es', g2, g3, g4, g5⟩ := h
      exact ⟨N - (i + 1), by omega, i + 1, c', b', es', by omega, rfl, g2, g3, g4, g5⟩

/-- A loop with a measure of its own, that appends to a slice that is nil ahead of it. -/
theorem loop_am {a : ICode} {Q : IPost} (t sz : Nat) (J : Nat → List AV → Env → Prop) (i0 : Nat) (ht : e t = .nils) (hw : t ∈ written a) (h0 : ∀ v, J i0 [] (upd e t v))
    (hs : ∀ i e1 n1 c es, s c = none → agree (written a) e e1 → e1 t = .row sz c 0 es.length → J i es e1 →
      WpI P a (seqQ (fun e' _ s' => ∃ j c' es', j < i ∧ s c' = none ∧ e' t = .row sz c' 0 es'.length ∧ s' = upd s c' (some (.row sz es')) ∧ J j es' e') Q) e1 n1 (upd s c (some (.row sz es)))) :
    LoopK P a Q e n s .mk .mk .mk .mk .mk := by
  refine loop_gh2 (fun k e1 s1 => ∃ c es, s c = none ∧ e1 t = .row sz c 0 es.length ∧ s1 = upd s c (some (.row sz es)) ∧ J k es e1)
    (fun M hM => ⟨upd e t (.row sz M 0 0), upd s M (some (.row sz [])), i0, GhN_nil ht, ?_, M, [], hM M (Nat.le_refl _), upd_same _ _ _, rfl, h0 _⟩) ?_
  · intro j hj; exact upd_ne _ _ (fun ej => hj (ej ▸ hw))
  · rintro k e1 n1 s1 ha ⟨c, es, hc, h1, rfl, hJ⟩
    refine (hs k e1 n1 c es hc ha h1 hJ).imp fun x e' n' s' h => ?_
    cases x with
    | exit i => exact h
    | ret => exact h
    | normal =>
      obtain ⟨j, c', es', g1, g2, g3, g4, g5⟩ := h
      exact ⟨j, g1, c', es', g2, g3, g4, g5⟩

/-! ### A set of dots, its list apart -/

def encDotsR (v : Vec) (x : AV) : AV := .agg (v.l.map AV.int ++ [x])
theorem dr_eq (s : Dots) : encDotsR s.V (encL 2 encDot s.More) = encDots s := rfl
theorem dr_z : AV.agg [.int 0, .int 0, .int 0, .int 0, .int 0, .int 0, .int 0, .int 0, .int 0, .int 0, .int 0, .int 0, .int 0, .int 0, .int 0, .int 0, .nils] = encDotsR vec0 .nils := rfl
theorem dr_zv : AV.agg [.int 0, .int 0, .int 0, .int 0, .int 0, .int 0, .int 0, .int 0, .int 0, .int 0, .int 0, .int 0, .int 0, .int 0, .int 0, .int 0] = encVec vec0 := rfl
theorem dr_zd : AV.agg [.int 0, .int 0] = encDot ⟨0, 0⟩ := rfl
theorem dr_fl {v : Vec} {x : AV} : (encDotsR v x).flat = true := rfl
theorem dr_pl {v : Vec} {x : AV} : (encDotsR v x).plain = true := rfl
theorem dr_ok {v : Vec} {x : AV} : (encDotsR v x).okArg = true := rfl
theorem dr_cl {v : Vec} {x : AV} : (encDotsR v x).cells.length = 17 := by simp [encDotsR, AV.cells, v.h]
theorem dr_p16 {v : Vec} {x : AV} : AV.part 16 1 false (encDotsR v x) = some x := part_one (v.l.map AV.int) x [] (by simp [v.h])
theorem dr_p0 {v : Vec} {x : AV} : AV.part 0 16 true (encDotsR v x) = some (encVec v) := part_mid [] (v.l.map AV.int) [x] rfl (by simp [v.h])
theorem dr_pn {v : Vec} {x : AV} {n : Nat} (h : n < 16) : AV.part n 1 false (encDotsR v x) = some (.int (v.at n)) := by
  have := part_at (f := AV.int) (l := v.l) (n := n) (off := 0) [] [x] 0 rfl (by rw [v.h]; exact h)
  simpa [encDotsR, Vec.at] using this
theorem dr_all {v : Vec} {x : AV} : AV.part 0 17 true (encDotsR v x) = some (encDotsR v x) := part_all dr_cl
theorem dr_s16 {v : Vec} {x y : AV} : AV.setPart 16 [y] (encDotsR v x) = some (encDotsR v y) := by
  have := set_mid (v.l.map AV.int) [x] [y] [] (by simp [v.h] : (v.l.map AV.int).length = 16) rfl
  simpa [encDotsR] using this
theorem dr_sn {v : Vec} {x : AV} {n : Nat} {a : Int} (h : n < 16) : AV.setPart n [.int a] (encDotsR v x) = some (encDotsR (v.set n a) x) := by
  have hl : n < (v.l.map AV.int).length := by simp [v.h]; exact h
  have e1 : v.l.map AV.int = (v.l.map AV.int).take n ++ ([(v.l.map AV.int)[n]] ++ (v.l.map AV.int).drop (n + 1)) := by
    rw [List.singleton_append, ← List.drop_eq_getElem_cons hl, List.take_append_drop]
  have := set_mid (off := n) ((v.l.map AV.int).take n) [(v.l.map AV.int)[n]] [AV.int a] ((v.l.map AV.int).drop (n + 1) ++ [x]) (by simp; have := v.h; omega) rfl
  rw [encDotsR, e1, List.append_assoc, List.append_assoc, this]
  simp only [encDotsR, Vec.set, List.map_set]
  rw [List.set_eq_take_append_cons_drop, if_pos (by simp [v.h]; exact h)]
  simp
theorem dr_sall {v v' : Vec} {x x' : AV} : AV.setPart 0 (encDotsR v' x').cells (encDotsR v x) = some (encDotsR v' x') := by
  have := set_mid (off := 0) [] (v.l.map AV.int ++ [x]) (v'.l.map AV.int ++ [x']) [] rfl (by simp [v.h, v'.h])
  simpa [encDotsR, AV.cells] using this
theorem dr_sall' {v : Vec} {x : AV} {s : Dots} : AV.setPart 0 (encDots s).cells (encDotsR v x) = some (encDots s) := by rw [← dr_eq]; exact dr_sall
theorem dr_b1 {v v0 : Vec} {x : AV} : buildA (encDotsR v0 x) [(0, 16, encVec v)] = some (encDotsR v x) := by
  have h1 : (encVec v).cells.length = 16 := cl_Vec v
  have h2 : 0 + 16 ≤ (encDotsR v0 x).cells.length := by rw [dr_cl]; omega
  rw [buildA, fillA, if_pos ⟨rfl, h1, h2⟩, fillA]
  have h3 : (encVec v).cells = v.l.map AV.int := rfl
  have h4 : (encDotsR v0 x).cells = v0.l.map AV.int ++ [x] := rfl
  rw [h3, h4, over]
  simp [v.h, v0.h, encDotsR, List.drop_append]
theorem dr_b2' {v v0 : Vec} {x y : AV} (h : y.one = true) : buildA (encDotsR v0 x) [(0, 16, encVec v), (16, 1, y)] = some (encDotsR v y) := by
  have h1 : (encVec v).cells.length = 16 := cl_Vec v
  have h2 : 0 + 16 ≤ (encDotsR v0 x).cells.length := by rw [dr_cl]; omega
  rw [buildA, fillA, if_pos ⟨rfl, h1, h2⟩]
  have h3 : (encVec v).cells = v.l.map AV.int := rfl
  have h4 : (encDotsR v0 x).cells = v0.l.map AV.int ++ [x] := rfl
  have h5 : over (v0.l.map AV.int ++ [x]) 0 (v.l.map AV.int) = v.l.map AV.int ++ [x] := by
    rw [over]; simp [v.h, v0.h, List.drop_append]
  have h6 : y.cells = [y] := by cases y <;> simp [AV.one] at h <;> rfl
  rw [h3, h4, h5, fillA, if_pos ⟨AV.one_flat h, by rw [h6]; rfl, by simp [v.h]⟩, fillA, h6, over]
  simp [v.h, encDotsR, List.take_append]
theorem dr_b2a {v v0 : Vec} {x : AV} {a b c d : Nat} : buildA (encDotsR v0 x) [(0, 16, encVec v), (16, 1, .row a b c d)] = some (encDotsR v (.row a b c d)) := dr_b2' rfl
theorem dr_b2b {v v0 : Vec} {x : AV} {a : Nat} {l : List AV} : buildA (encDotsR v0 x) [(0, 16, encVec v), (16, 1, .lst a l)] = some (encDotsR v (.lst a l)) := dr_b2' rfl
theorem dr_b2c {v v0 : Vec} {x : AV} {α : Type} {a : Nat} {f : α → AV} {l : List α} : buildA (encDotsR v0 x) [(0, 16, encVec v), (16, 1, encL a f l)] = some (encDotsR v (encL a f l)) := dr_b2' rfl
theorem dR_if {α : Type} {d : Dot} {x : Option α} (h : dotRight d = true) : (if 0 ≤ d.R ∧ d.R < ((16 : Nat) : Int) then x else none) = x := by
  simp only [dotRight, decide_eq_true_eq] at h
  exact if_pos (by omega)
theorem dR_lt {d : Dot} (h : dotRight d = true) : d.R.toNat < 16 := by
  simp only [dotRight, decide_eq_true_eq] at h; omega
theorem dR_p0 {v : Vec} {d : Dot} (h : dotRight d = true) : AV.part d.R.toNat 1 false (encVec v) = some (.int (v.at d.R.toNat)) := pv0 (dR_lt h)
theorem dR_p1 {x : Dots} {d : Dot} (h : dotRight d = true) : AV.part d.R.toNat 1 false (encDots x) = some (.int (x.V.at d.R.toNat)) := pv1 (dR_lt h)
theorem dR_p2 {v : Vec} {x : AV} {d : Dot} (h : dotRight d = true) : AV.part d.R.toNat 1 false (encDotsR v x) = some (.int (v.at d.R.toNat)) := dr_pn (dR_lt h)
theorem dR_s {v : Vec} {x : AV} {d : Dot} {a : Int} (h : dotRight d = true) : AV.setPart d.R.toNat [.int a] (encDotsR v x) = some (encDotsR (v.set d.R.toNat a) x) := dr_sn (dR_lt h)
theorem eqLs_ints : ∀ (n : Nat) (l l' : List Int), l.length = n → l'.length = n → eqLs (List.replicate n (.int .i64)) (l.map AV.int) (l'.map AV.int) = some (decide (l = l'))
  | 0, l, l', h, h' => by
    obtain rfl := List.eq_nil_of_length_eq_zero h
    obtain rfl := List.eq_nil_of_length_eq_zero h'
    simp [eqLs]
  | n + 1, l, l', h, h' => by
    match l, l', h, h' with
    | a :: l, b :: l', h, h' =>
      have := eqLs_ints n l l' (by simpa using h) (by simpa using h')
      rw [List.replicate_succ, List.map_cons, List.map_cons, eqLs, this]
      simp only [eqLeaf, Option.bind_some, Option.map_some, and_self, if_true, Option.some.injEq, List.cons.injEq, Bool.decide_and]
      congr 1
theorem eq_Vec {a b : Vec} : eqAgg [.int .i64, .int .i64, .int .i64, .int .i64, .int .i64, .int .i64, .int .i64, .int .i64, .int .i64, .int .i64, .int .i64, .int .i64, .int .i64, .int .i64, .int .i64, .int .i64] (encVec a) (encVec b) = some (decide (a.l = b.l)) :=
  eqLs_ints 16 a.l b.l a.h b.h
theorem bu_Dot {x : Dot} : buildA (encDot x) [] = some (encDot x) := rfl
theorem bu_Undo {x : Undo} : buildA (encUndo x) [] = some (encUndo x) := rfl
theorem bu_Val {x : Val} : buildA (encVal x) [] = some (encVal x) := rfl
theorem bu_Ref {x : Ref} : buildA (encRef x) [] = some (encRef x) := rfl
theorem bu_Opn {x : Opn} : buildA (encOpn x) [] = some (encOpn x) := rfl
theorem bu_Txn {x : Txn} : buildA (encTxn x) [] = some (encTxn x) := rfl
theorem bu_Dots {x : Dots} : buildA (encDots x) [] = some (encDots x) := rfl
theorem bu_State {x : State} : buildA (encState x) [] = some (encState x) := rfl
theorem bu_Know {x : Know} : buildA (encKnow x) [] = some (encKnow x) := rfl
theorem bu_Delta {x : Delta} : buildA (encDelta x) [] = some (encDelta x) := rfl
theorem bu_Record {x : Record} : buildA (encRecord x) [] = some (encRecord x) := rfl
theorem bu_Msg {x : Msg} : buildA (encMsg x) [] = some (encMsg x) := rfl
theorem bu_Row {x : Row} : buildA (encRow x) [] = some (encRow x) := rfl
theorem bu_Vec {x : Vec} : buildA (encVec x) [] = some (encVec x) := rfl
theorem bu_R {v : Vec} {x : AV} : buildA (encDotsR v x) [] = some (encDotsR v x) := rfl
theorem dr_row (v : Vec) (sz c : Nat) (F : Nat → Prop) (μ : Nat → Option Spot) (w : World) (u : Value) (h : RV F μ w (encDotsR v .nils) u) : RV F μ w (encDotsR v (.row sz c 0 0)) u := by
  cases h with
  | agg _ vs hl h1 h =>
    have hv : (v.l.map AV.int).length = 16 := by simp [v.h]
    refine .agg _ vs (by simpa using hl) (fun i hi => ?_) (fun i hi hj => ?_)
    · by_cases hlt : i < (v.l.map AV.int).length
      · rw [List.getElem_append_left hlt]; simp [AV.one]
      · rw [List.getElem_append_right (by omega)]; simp [AV.one]
    · have hx := h i (by simpa using hi) hj
      by_cases hlt : i < (v.l.map AV.int).length
      · rw [List.getElem_append_left hlt] at hx ⊢; exact hx
      · rw [List.getElem_append_right (by omega)] at hx ⊢
        simp only [List.getElem_singleton] at hx ⊢
        generalize vs[i] = u at hx
        cases hx with
        | nils a => exact .rowE sz c 0 a
theorem frz_ints (c sz : Nat) (es : List AV) (l : List Int) : (l.map AV.int).map (frz c sz es) = l.map AV.int := by
  simp [frz]
theorem frz_row {c sz : Nat} {es : List AV} : frz c sz es (.row sz c 0 es.length) = .lst sz es := by simp [frz]
theorem frz_dr {c sz : Nat} {es : List AV} {v : Vec} {x : AV} : frz c sz es (encDotsR v x) = encDotsR v (frz c sz es x) := by
  simp only [encDotsR, frz, List.map_append, frz_ints, List.map_cons, List.map_nil]
theorem frz_dr1 {c sz : Nat} {es : List AV} {v : Vec} : frz c sz es (encDotsR v (.row sz c 0 es.length)) = encDotsR v (.lst sz es) := by
  rw [frz_dr, frz_row]
theorem LeL.one {a b : AV} (h : Le a b) : LeL [a] [b] := .cons h .nil
theorem Le.dr0 {v : Vec} : Le (encDotsR v .nils) (encDots ⟨v, []⟩) := .ag ((LeL.refl _).append (.one (.nil 2)))
end
theorem ex_0 {a : AV} {l : List AV} : extA 0 (.tup (a :: l)) = some a := rfl
theorem ex_1 {a b : AV} {l : List AV} : extA 1 (.tup (a :: b :: l)) = some b := rfl
theorem ex_2 {a b c : AV} {l : List AV} : extA 2 (.tup (a :: b :: c :: l)) = some c := rfl
theorem bs_0 {n : Nat} : bslA n [] = some .nils := rfl
theorem bs_1 {n : Nat} {a : AV} : bslA n [a] = if a.flat = true ∧ a.cells.length = n then some (.lst n [a]) else none := by simp [bslA]
theorem bs_2 {n : Nat} {a b : AV} : bslA n [a, b] = if (a.flat = true ∧ a.cells.length = n) ∧ (b.flat = true ∧ b.cells.length = n) then some (.lst n [a, b]) else none := by simp [bslA]
theorem bs_4 {n : Nat} {a b c d : AV} : bslA n [a, b, c, d] = if (a.flat = true ∧ a.cells.length = n) ∧ (b.flat = true ∧ b.cells.length = n) ∧ (c.flat = true ∧ c.cells.length = n) ∧ (d.flat = true ∧ d.cells.length = n) then some (.lst n [a, b, c, d]) else none := by simp [bslA]
def QE := And.intro @bs_0 <| And.intro @bs_1 <| And.intro @bs_2 <| And.intro @bs_4 <| And.intro @ex_0 <| And.intro @ex_1 <| And.intro @ex_2 <| And.intro @dr_z <| And.intro @dr_zv <| And.intro @dr_zd <| And.intro @dr_fl <| And.intro @dr_pl <| And.intro @dr_ok <| And.intro @dr_cl <| And.intro @dr_p16 <| And.intro @dr_p0 <| And.intro @dr_pn <| And.intro @dr_all <|
  And.intro @dr_s16 <| And.intro @dr_sn <| And.intro @dr_sall <| And.intro @dr_sall' <| And.intro @dr_b1 <| And.intro @dr_b2a <| And.intro @dr_b2b <| And.intro @dr_b2c <| And.intro @dR_if <| And.intro @dR_p0 <| And.intro @dR_p1 <| And.intro @dR_p2 <| And.intro @dR_s <| And.intro @eq_Vec <| And.intro @bu_Dot <| And.intro @bu_Undo <| And.intro @bu_Val <| And.intro @bu_Ref <| And.intro @bu_Opn <| And.intro @bu_Txn <| And.intro @bu_Dots <| And.intro @bu_State <| And.intro @bu_Know <| And.intro @bu_Delta <| And.intro @bu_Record <| And.intro @bu_Msg <| And.intro @bu_Row <| And.intro @bu_Vec <| And.intro @bu_R <|  And.intro @dr_eq <| And.intro @sx_b <| And.intro @sx_0 <| And.intro @cv_b <| And.intro @cvi_ <| And.intro @ssl_a <| And.intro @ssl_b <| @ssl_c
end Go.Av

namespace Go.Av
set_option linter.unusedVariables false
set_option linter.defProp false

theorem ia_p {α : Type} {n i : Nat} {f : α → AV} {l : List α} (h : 0 < i) : iaddrSA n ((i : Int) - 1) (encL n f l) = (l[i - 1]?).map fun x => .ipt (f x) 0 := by
  rw [show (i : Int) - 1 = ((i - 1 : Nat) : Int) by omega]; exact ia_L
theorem wr_dm {d : Dot} (h : dotRight d = true) : IntKind.i64.wrap (d.N - 1) = d.N - 1 := by
  simp only [dotRight, decide_eq_true_eq] at h
  exact wr (by omega) (by omega)
theorem wr_dp {d : Dot} (h : dotRight d = true) : IntKind.i64.wrap (d.N + 1) = d.N + 1 := by
  simp only [dotRight, decide_eq_true_eq] at h
  exact wr (by omega) (by omega)
section
variable {F K : Nat → Prop} {μ : Nat → Option Spot} {w : World} {σ s : Heap} {P : Program} {e env : Env} {n : Nat}
theorem GhE_box_le {t st : Nat} {x x' : AV} (h : env t = .box st x) (hf : x.flat = true → x'.flat = true) (hx : Le x x') : GhE env σ (upd env t (.box st x')) σ := by
  refine ⟨fun j => ?_, fun F K μ w xs hxs hi => ⟨F, μ, fun j => ?_, hi, Ext.refl F K μ w⟩⟩
  · by_cases hj : j = t
    · subst hj; rw [h, upd_same]; exact ⟨x', rfl, hf⟩
    · rw [upd_ne _ _ hj]; exact AV.alike_refl _
  · by_cases hj : j = t
    · subst hj
      have := hxs j
      rw [h] at this
      rw [upd_same]
      exact RV_le hx this
    · rw [upd_ne _ _ hj]; exact hxs j

/-- A loop that counts up, ahead of which a box is told weaker. -/
theorem loop_pl {a : ICode} {Q : IPost} (N : Nat) (I : Nat → Env → Prop) (i0 t st : Nat) (x x' : AV) (hi : i0 ≤ N) (ht : e t = .box st x) (hl : Le x x') (hf : x.flat = true → x'.flat = true) (hw : t ∈ written a) (h0 : I i0 (upd e t (.box st x')))
    (hs : ∀ i e1 n1, i ≤ N → agree (written a) e e1 → I i e1 → WpI P a (seqQ (fun e' _ s' => s' = s ∧ i < N ∧ I (i + 1) e') Q) e1 n1 s) : LoopK P a Q e n s .mk .mk .mk .mk .mk := by
  refine loop_gh2 (fun k e1 s1 => s1 = s ∧ ∃ i, i ≤ N ∧ k = N - i ∧ I i e1) (fun M _ => ⟨upd e t (.box st x'), s, N - i0, (GhE_box_le ht hf hl).ghN M, fun j hj => upd_ne _ _ (fun ej => hj (ej ▸ hw)), rfl, i0, hi, rfl, h0⟩) ?_
  rintro k e1 n1 s1 ha ⟨rfl, i, hi, rfl, hI⟩
  refine (hs i e1 n1 hi ha hI).imp fun x e' n' s' h => ?_
  cases x with
  | exit i => exact h
  | ret => exact h
  | normal => exact ⟨N - (i + 1), by have := h.2.1; omega, h.1, i + 1, by have := h.2.1; omega, rfl, h.2.2⟩
end
def QF := And.intro @ia_p <| And.intro @wr_dm <| @wr_dp
end Go.Av

