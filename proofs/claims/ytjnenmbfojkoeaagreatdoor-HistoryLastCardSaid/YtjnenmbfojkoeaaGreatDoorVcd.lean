/- Part 4 of the proof: own lemmas, of no statement. -/
import Derived.Test.YtjnenmbfojkoeaaGreatDoorVcc
set_option linter.unusedSimpArgs false
set_option linter.unusedVariables false
set_option linter.defProp false
namespace Go.Av

section
variable {B : List Nat} {n : Nat} {P : Program} {F K : Nat → Prop} {μ : Nat → Option Spot} {β : Nat → Nat} {U : Nat → Prop} {env : Env} {σ : Heap} {a : Act} {w : World}

/-- One result. -/
theorem res_run {rv : ResultVar} {ir : IRes} {x : AV} (hc : compRes P B rv = some ir) (hr : Rel B n F K μ β U env σ a w) (hx : resA1 env ir = some x) :
    ∃ u, (match rv with
      | .tmp t => pure (a.tmps.getD t undef)
      | .cell b t => do loadVar t (← asAddr (a.tmps.getD b undef)) : Sem Value).run P w = .ok u w ∧ RV F μ w x u := by
  cases rv with
  | tmp t =>
    simp only [compRes] at hc
    split at hc
    · cases hc
    · cases hc
      have hv := hr.val t
      simp only [resA1] at hx
      refine ⟨_, rfl, ?_⟩
      cases he : env t <;> rw [he] at hx hv <;> first | (cases hx; exact hv) | (cases hx)
  | cell t ty =>
    simp only [compRes] at hc
    split at hc
    · simp only [Option.bind_eq_some_iff, Option.map_eq_some_iff] at hc
      obtain ⟨sz, hs, ag, ha, rfl⟩ := hc
      have hv := hr.val t
      simp only [resA1] at hx
      cases he : env t <;> rw [he] at hx hv <;> simp at hx
      obtain ⟨_, h2, _, v, ty', hrv, hheap⟩ := hv
      obtain ⟨u, g2, g3, _⟩ := part_rv hx hrv
      refine ⟨u, ?_, g3⟩
      have hcl : ∀ j c, v.cells[j]? = some c → w.cell? ⟨β t, 0 + j, none⟩ = some c := by
        intro j c hj
        simp [World.cell?, hheap, hj]
      have := run_loadPart (P := P) ha hs hcl g2
      simp only [Nat.zero_add] at this
      simp [h2, asAddr, this]
    · cases hc

theorem ress_run : ∀ {rvs : List ResultVar} {irs : List IRes} {xs : List AV}, rvs.mapM (compRes P B) = some irs → Rel B n F K μ β U env σ a w → resAs env irs = some xs →
    ∃ us : List Value, (rvs.mapM (fun
      | .tmp t => pure (a.tmps.getD t undef)
      | .cell b t => do loadVar t (← asAddr (a.tmps.getD b undef)) : ResultVar → Sem Value)).run P w = .ok us w ∧ RVs F μ w xs us
  | [], irs, xs, hc, hr, hx => by
    simp only [List.mapM_nil, Option.pure_def, Option.some.injEq] at hc
    subst hc
    cases hx
    exact ⟨[], by simp, rfl, fun i hi => by simp at hi⟩
  | rv :: rvs, irs, xs, hc, hr, hx => by
    simp only [List.mapM_cons, Option.bind_eq_bind, Option.bind_eq_some_iff, Option.pure_def, Option.some.injEq] at hc
    obtain ⟨ir, h1, irs', h2, rfl⟩ := hc
    simp only [resAs, Option.bind_eq_some_iff, Option.map_eq_some_iff] at hx
    obtain ⟨x, h3, xs', h4, rfl⟩ := hx
    obtain ⟨u, g1, g2⟩ := res_run h1 hr h3
    obtain ⟨us, g3, g4, g5⟩ := ress_run h2 hr h4
    refine ⟨u :: us, ?_, by simp [g4], fun i hi hj => ?_⟩
    · rw [List.mapM_cons]
      simp only [Sem.run_bind, g1, Result.andThen_ok, g3, Sem.run_pure]
    · cases i with
      | zero => exact g2
      | succ i => exact g5 i (by simpa using hi) (by simpa using hj)

theorem RVs.oneOrTup {xs : List AV} {us : List Value} (h : RVs F μ w xs us) : RV F μ w (oneOrTup xs) (if h : us.toArray.size = 1 then us.toArray[0] else .tuple us.toArray) := by
  obtain ⟨hl, h⟩ := h
  have gen : ∀ xs : List AV, xs.length ≠ 1 → Go.Av.oneOrTup xs = .tup xs := by
    intro xs h
    match xs with
    | [] => rfl
    | [a] => simp at h
    | a :: b :: l => rfl
  by_cases h1 : us.length = 1
  · obtain ⟨u, rfl⟩ := List.length_eq_one_iff.1 h1
    obtain ⟨x, rfl⟩ := List.length_eq_one_iff.1 hl.symm
    exact h 0 (by simp) (by simp)
  · rw [dif_neg (by simpa using h1), gen _ (by omega)]
    exact .tup xs us hl h

theorem fin_aux (r : Result (List Value)) (us : List Value) (w : World) (h : r = .ok us w) : ((r.andThen fun a w' => .ok a.toArray w').andThen fun (a : Array Value) w' => .ok (if h : a.size = 1 then a[0] else .tuple a) w') =
    .ok (if h : us.toArray.size = 1 then us.toArray[0] else .tuple us.toArray) w := by subst h; rfl

/-- The end of a function. -/
theorem ret_sound {fn : Func} {irs : List IRes} {F0 : Nat → Prop} {μ0 : Nat → Option Spot} {w0 : World} {R : AV → Heap → Prop} (hc : fn.results.toList.mapM (compRes P B) = some irs) (hr : Rel B n F K μ β U env σ a w)
    (h : RetG (resAs env irs) σ R) (he : Ext F0 K μ0 w0 F μ w) : a.defers = [] ∧ ∃ v, (results fn a.tmps).run P w = .ok v w ∧ Ends F0 K μ0 w0 R v w := by
  obtain ⟨l, l', σ', h1, hg, hR⟩ := h
  obtain ⟨us, g1, g2⟩ := ress_run hc hr h1
  obtain ⟨F', μ', k1, k2, k3⟩ := hg F K μ w us g2 (hr.inv.monoK fun _ h => .inl h)
  refine ⟨hr.defers, _, ?_, oneOrTup l', σ', F', μ', hR, k1.oneOrTup, k2, he.trans k3⟩
  have : fn.results = fn.results.toList.toArray := by simp
  unfold results
  rw [this, List.mapM_toArray]
  simp only [Sem.run_bind, Sem.run_map, Sem.run_pure]
  exact fin_aux _ us w g1

/-- From the abstract walk to the contract. -/
theorem callsA_of_wp {P : Program} {B : List Nat} (hm : P.follows .mixedOrders = true) {f : FuncId} {fn : Func} {own : List Nat} {ifn : IFn} {args : List AV} {σ : Heap} {R : AV → Heap → Prop} (hf : P.funcs[f]? = some fn)
    (hc : compFn P B own fn = some ifn) (hn : args.length ≤ ifn.n) (h : WpI P ifn.code (retQ ifn.res R) (argE args) 0 σ) : CallsA P f args σ R := by
  intro F K μ w vs hvs hinv
  unfold compFn at hc
  cases hb : fn.body with
  | none => rw [hb] at hc; cases hc
  | some c =>
    rw [hb] at hc
    simp only [Option.bind_eq_some_iff] at hc
    obtain ⟨code, hcode, irs, hirs, hc⟩ := hc
    split at hc
    · rename_i hcond
      cases hc
      have hname : (fn.name == "runtime.NumGoroutine") = false := by simpa using hcond.2.2
      have hrun : (callFunc f vs.toArray).run P w = .ok (.enter f vs.toArray) w := by
        simp only [callFunc, Sem.run_bind, run_program, Result.andThen_ok, hf, hname, hb]
        rfl
      unfold CallSem
      rw [hrun]
      refine calls_of_wp hf hb ?_
      have hnb : ∀ t st e, argE args t ≠ .box st e := by
        intro t st e he
        unfold argE at he
        cases ha : args[t]? with
        | none => rw [ha] at he; cases he
        | some x =>
          rw [ha] at he
          obtain ⟨ht, rfl⟩ := List.getElem?_eq_some_iff.1 ha
          have := hvs.2 t ht (by rw [hvs.1]; exact ht)
          rw [show args[t] = .box st e from he] at this
          cases this
      have hndp : ∀ t t' st e, argE args t ≠ .dpt t' st e := by
        intro t t' st e he
        unfold argE at he
        cases ha : args[t]? with
        | none => rw [ha] at he; cases he
        | some x =>
          rw [ha] at he
          obtain ⟨ht, rfl⟩ := List.getElem?_eq_some_iff.1 ha
          have := hvs.2 t ht (by rw [hvs.1]; exact ht)
          rw [show args[t] = .dpt t' st e from he] at this
          cases this
      have hle : args.length ≤ fn.ntmps := hn
      have hr : Rel B fn.ntmps F K μ (fun _ => 0) (fun s => s < 0) (argE args) σ { tmps := vs.toArray ++ Array.replicate (fn.ntmps - vs.toArray.size) undef, defers := [] } w := by
        refine ⟨by simp [hvs.1]; omega, rfl, fun t st e he => absurd he (hnb t st e), fun t => ?_, fun t t' st st' e e' h1 => absurd h1 (hnb _ _ _), fun t st e he => absurd he (hnb t st e), hinv.monoK ?_⟩
        · have : RV F μ w (argE args t) ((vs.toArray ++ Array.replicate (fn.ntmps - vs.toArray.size) undef).getD t undef) := by
            unfold argE
            rw [Array.getD_eq_getD_getElem?]
            by_cases ht : t < args.length
            · rw [List.getElem?_eq_getElem ht]
              have ht' : t < vs.length := by rw [hvs.1]; exact ht
              rw [Array.getElem?_append_left (by simpa using ht')]
              simp [ht']
              exact hvs.2 t ht ht'
            · rw [List.getElem?_eq_none (by omega)]
              have ht' : ¬ t < vs.length := by rw [hvs.1]; exact ht
              rw [Array.getElem?_append_right (by simp; omega)]
              rw [Array.getElem?_replicate]
              split <;> exact .tup [] [] rfl (fun i hi => by simp at hi)
          revert this
          generalize hx : argE args t = x
          intro hv
          cases x <;> first | exact hv | exact absurd hx (hnb _ _ _) | exact absurd hx (hndp _ _ _ _)
        · rintro k (h | ⟨t, st, e, h1, _⟩)
          · exact h
          · exact absurd h1 (hnb _ _ _)
      refine wp_mono (wpI_sound hm c hcode hr h) ?_
      rintro e a' w' ⟨x, F', μ', β', env', nv', σ', rfl, h2, h3, h4⟩
      cases x with
      | exit i => exact h2.elim
      | normal =>
        obtain ⟨g1, v, g2, g3⟩ := ret_sound hirs h3 h2 h4
        exact ⟨g1, v, g2, v, rfl, g3⟩
      | ret =>
        obtain ⟨g1, v, g2, g3⟩ := ret_sound hirs h3 h2 h4
        exact ⟨g1, v, g2, v, rfl, g3⟩
    · cases hc

end
end Go.Av

namespace Go.Av

/-! What a program wrote (structs.py): the structures of the data, what they come to, and the laws of their parts. -/

structure Vec where
  l : List Int
  h : l.length = 16

def encL {α : Type} (sz : Nat) (f : α → AV) (l : List α) : AV := .lst sz (l.map f)
def encVec (v : Vec) : AV := .agg (v.l.map AV.int)

set_option linter.unusedSimpArgs false
theorem ba_beq (a b : ByteArray) : (a == b) = decide (a = b) := by
  rw [Bool.eq_iff_iff, decide_eq_true_iff]
  cases a with | mk a =>
  cases b with | mk b =>
  have : ((ByteArray.mk a == ByteArray.mk b) = true) ↔ (a == b) = true := Iff.rfl
  rw [this, beq_iff_eq]
  constructor
  · rintro rfl; rfl
  · intro h; cases h; rfl
theorem part_mid {off sz : Nat} (pre mid post : List AV) (h1 : pre.length = off) (h2 : mid.length = sz) : AV.part off sz true (.agg (pre ++ (mid ++ post))) = some (.agg mid) := by
  subst h1 h2
  have h : pre.length + mid.length ≤ (pre ++ (mid ++ post)).length := by simp only [List.length_append]; omega
  simp only [AV.part, if_true]
  rw [if_pos h, List.drop_left, List.take_left]
theorem part_one {off : Nat} (pre : List AV) (c : AV) (post : List AV) (h1 : pre.length = off) : AV.part off 1 false (.agg (pre ++ c :: post)) = some c := by
  subst h1
  simp [AV.part]
theorem set_mid {off : Nat} (pre mid new post : List AV) (h1 : pre.length = off) (h2 : new.length = mid.length) : AV.setPart off new (.agg (pre ++ (mid ++ post))) = some (.agg (pre ++ (new ++ post))) := by
  subst h1
  have h : pre.length + new.length ≤ (pre ++ (mid ++ post)).length := by simp only [List.length_append]; omega
  have hd : (pre ++ (mid ++ post)).drop (pre.length + new.length) = post := by
    rw [h2, ← List.drop_drop, List.drop_left, List.drop_left]
  simp only [AV.setPart, over]
  rw [if_pos h, hd, List.take_left, List.append_assoc]

@[ext] structure Dot where
  R : Int
  N : Int
  deriving DecidableEq
def encDot (x : Dot) : AV := .agg ([(.int x.R), (.int x.N)])

@[ext] structure Undo where
  D : Dot
  N : Int
  deriving DecidableEq
def encUndo (x : Undo) : AV := .agg ([(.int x.D.R), (.int x.D.N), (.int x.N)])

@[ext] structure Val where
  Kind : Int
  N : Int
  S : ByteArray
  deriving DecidableEq
def encVal (x : Val) : AV := .agg ([(.int x.Kind), (.int x.N), (.str x.S)])

@[ext] structure Ref where
  D : Dot
  I : Int
  deriving DecidableEq
def encRef (x : Ref) : AV := .agg ([(.int x.D.R), (.int x.D.N), (.int x.I)])

@[ext] structure Opn where
  Kind : Int
  Path : List ByteArray
  V : Val
  N : Int
  Seen : List Ref
def encOpn (x : Opn) : AV := .agg ([(.int x.Kind), ((encL 1 AV.str) x.Path), (.int x.V.Kind), (.int x.V.N), (.str x.V.S), (.int x.N), ((encL 3 encRef) x.Seen)])

@[ext] structure Txn where
  D : Dot
  User : Int
  Time : Int
  Thin : Bool
  Ops : List Opn
def encTxn (x : Txn) : AV := .agg ([(.int x.D.R), (.int x.D.N), (.int x.User), (.int x.Time), (.bool x.Thin), ((encL 7 encOpn) x.Ops)])

@[ext] structure Dots where
  V : Vec
  More : List Dot
def encDots (x : Dots) : AV := .agg ((x.V.l.map AV.int) ++ ([((encL 2 encDot) x.More)]))

structure Redo where
  l : List (List Dot)
  h : l.length = 8
def encRedo (v : Redo) : AV := .agg (v.l.map (encL 2 encDot))

@[ext] structure State where
  Txns : List Txn
  Undos : List Undo
  Known : Dots
  Sealed : Dots
  Redo : Redo
def encState (x : State) : AV := .agg ([((encL 6 encTxn) x.Txns), ((encL 3 encUndo) x.Undos)] ++ ((x.Known.V.l.map AV.int) ++ ([((encL 2 encDot) x.Known.More)] ++ ((x.Sealed.V.l.map AV.int) ++ ([((encL 2 encDot) x.Sealed.More)] ++ ((x.Redo.l.map (encL 2 encDot))))))))

@[ext] structure Know where
  Known : Dots
  Undos : List Undo
  Sealed : Dots
def encKnow (x : Know) : AV := .agg ((x.Known.V.l.map AV.int) ++ ([((encL 2 encDot) x.Known.More), ((encL 3 encUndo) x.Undos)] ++ ((x.Sealed.V.l.map AV.int) ++ ([((encL 2 encDot) x.Sealed.More)]))))

@[ext] structure Delta where
  Txns : List Txn
  Undos : List Undo
  Sealed : List Dot
def encDelta (x : Delta) : AV := .agg ([((encL 6 encTxn) x.Txns), ((encL 3 encUndo) x.Undos), ((encL 2 encDot) x.Sealed)])

@[ext] structure Record where
  Kind : Int
  T : Txn
  User : Int
  U : Undo
  Back : Int
  D : Delta
  S : State
def encRecord (x : Record) : AV := .agg ([(.int x.Kind), (.int x.T.D.R), (.int x.T.D.N), (.int x.T.User), (.int x.T.Time), (.bool x.T.Thin), ((encL 7 encOpn) x.T.Ops), (.int x.User), (.int x.U.D.R), (.int x.U.D.N), (.int x.U.N), (.int x.Back), ((encL 6 encTxn) x.D.Txns), ((encL 3 encUndo) x.D.Undos), ((encL 2 encDot) x.D.Sealed), ((encL 6 encTxn) x.S.Txns), ((encL 3 encUndo) x.S.Undos)] ++ ((x.S.Known.V.l.map AV.int) ++ ([((encL 2 encDot) x.S.Known.More)] ++ ((x.S.Sealed.V.l.map AV.int) ++ ([((encL 2 encDot) x.S.Sealed.More)] ++ ((x.S.Redo.l.map (encL 2 encDot))))))))

@[ext] structure Msg where
  Kind : Int
  From : Int
  To : Int
  D : Delta
  K : Know
def encMsg (x : Msg) : AV := .agg ([(.int x.Kind), (.int x.From), (.int x.To), ((encL 6 encTxn) x.D.Txns), ((encL 3 encUndo) x.D.Undos), ((encL 2 encDot) x.D.Sealed)] ++ ((x.K.Known.V.l.map AV.int) ++ ([((encL 2 encDot) x.K.Known.More), ((encL 3 encUndo) x.K.Undos)] ++ ((x.K.Sealed.V.l.map AV.int) ++ ([((encL 2 encDot) x.K.Sealed.More)])))))

@[ext] structure Row where
  D : Dot
  User : Int
  Time : Int
  Ops : Int
  Turns : Int
  Counts : Bool
  Fixed : Bool
  deriving DecidableEq
def encRow (x : Row) : AV := .agg ([(.int x.D.R), (.int x.D.N), (.int x.User), (.int x.Time), (.int x.Ops), (.int x.Turns), (.bool x.Counts), (.bool x.Fixed)])

theorem cl_Dot (x : Dot) : (encDot x).cells.length = 2 := by simp [encDot, AV.cells]
theorem fl_Dot (x : Dot) : (encDot x).flat = true := rfl
theorem ok_Dot (x : Dot) : (encDot x).okArg = true := rfl
theorem cl_Undo (x : Undo) : (encUndo x).cells.length = 3 := by simp [encUndo, AV.cells]
theorem fl_Undo (x : Undo) : (encUndo x).flat = true := rfl
theorem ok_Undo (x : Undo) : (encUndo x).okArg = true := rfl
theorem cl_Val (x : Val) : (encVal x).cells.length = 3 := by simp [encVal, AV.cells]
theorem fl_Val (x : Val) : (encVal x).flat = true := rfl
theorem ok_Val (x : Val) : (encVal x).okArg = true := rfl
theorem cl_Ref (x : Ref) : (encRef x).cells.length = 3 := by simp [encRef, AV.cells]
theorem fl_Ref (x : Ref) : (encRef x).flat = true := rfl
theorem ok_Ref (x : Ref) : (encRef x).okArg = true := rfl
theorem cl_Opn (x : Opn) : (encOpn x).cells.length = 7 := by simp [encOpn, AV.cells]
theorem fl_Opn (x : Opn) : (encOpn x).flat = true := rfl
theorem ok_Opn (x : Opn) : (encOpn x).okArg = true := rfl
theorem cl_Txn (x : Txn) : (encTxn x).cells.length = 6 := by simp [encTxn, AV.cells]
theorem fl_Txn (x : Txn) : (encTxn x).flat = true := rfl
theorem ok_Txn (x : Txn) : (encTxn x).okArg = true := rfl
theorem cl_Dots (x : Dots) : (encDots x).cells.length = 17 := by simp [encDots, AV.cells, Vec.h, Redo.h]
theorem fl_Dots (x : Dots) : (encDots x).flat = true := rfl
theorem ok_Dots (x : Dots) : (encDots x).okArg = true := rfl
theorem cl_State (x : State) : (encState x).cells.length = 44 := by simp [encState, AV.cells, Vec.h, Redo.h]
theorem fl_State (x : State) : (encState x).flat = true := rfl
theorem ok_State (x : State) : (encState x).okArg = true := rfl
theorem cl_Know (x : Know) : (encKnow x).cells.length = 35 := by simp [encKnow, AV.cells, Vec.h, Redo.h]
theorem fl_Know (x : Know) : (encKnow x).flat = true := rfl
theorem ok_Know (x : Know) : (encKnow x).okArg = true := rfl
theorem cl_Delta (x : Delta) : (encDelta x).cells.length = 3 := by simp [encDelta, AV.cells]
theorem fl_Delta (x : Delta) : (encDelta x).flat = true := rfl
theorem ok_Delta (x : Delta) : (encDelta x).okArg = true := rfl
theorem cl_Record (x : Record) : (encRecord x).cells.length = 59 := by simp [encRecord, AV.cells, Vec.h, Redo.h]
theorem fl_Record (x : Record) : (encRecord x).flat = true := rfl
theorem ok_Record (x : Record) : (encRecord x).okArg = true := rfl
theorem cl_Msg (x : Msg) : (encMsg x).cells.length = 41 := by simp [encMsg, AV.cells, Vec.h, Redo.h]
theorem fl_Msg (x : Msg) : (encMsg x).flat = true := rfl
theorem ok_Msg (x : Msg) : (encMsg x).okArg = true := rfl
theorem cl_Row (x : Row) : (encRow x).cells.length = 8 := by simp [encRow, AV.cells]
theorem fl_Row (x : Row) : (encRow x).flat = true := rfl
theorem ok_Row (x : Row) : (encRow x).okArg = true := rfl
theorem cl_Vec (x : Vec) : (encVec x).cells.length = 16 := by simp [encVec, AV.cells, Vec.h]
theorem fl_Vec (x : Vec) : (encVec x).flat = true := rfl
theorem ok_Vec (x : Vec) : (encVec x).okArg = true := rfl
theorem fl_L {α : Type} (n : Nat) (f : α → AV) (l : List α) : (encL n f l).flat = true := rfl
theorem on_L {α : Type} (n : Nat) (f : α → AV) (l : List α) : (encL n f l).one = true := rfl
theorem ok_L {α : Type} (n : Nat) (f : α → AV) (l : List α) : (encL n f l).okArg = true := rfl
theorem ce_L {α : Type} (n : Nat) (f : α → AV) (l : List α) : (encL n f l).cells = [encL n f l] := rfl
theorem le_L {α : Type} (n : Nat) (f : α → AV) (l : List α) : lenA (encL n f l) = some (l.length : Int) := by simp [lenA, encL]
theorem pt_Dot0 (x : Dot) : AV.part 0 1 false (encDot x) = some (AV.int x.R) := rfl
theorem pt_Dot1 (x : Dot) : AV.part 1 1 false (encDot x) = some (AV.int x.N) := rfl
theorem pt_Undo0 (x : Undo) : AV.part 0 2 true (encUndo x) = some (encDot x.D) := rfl
theorem pt_Undo1 (x : Undo) : AV.part 0 1 false (encUndo x) = some (AV.int x.D.R) := rfl
theorem pt_Undo2 (x : Undo) : AV.part 1 1 false (encUndo x) = some (AV.int x.D.N) := rfl
theorem pt_Undo3 (x : Undo) : AV.part 2 1 false (encUndo x) = some (AV.int x.N) := rfl
theorem pt_Val0 (x : Val) : AV.part 0 1 false (encVal x) = some (AV.int x.Kind) := rfl
theorem pt_Val1 (x : Val) : AV.part 1 1 false (encVal x) = some (AV.int x.N) := rfl
theorem pt_Val2 (x : Val) : AV.part 2 1 false (encVal x) = some (AV.str x.S) := rfl
theorem pt_Ref0 (x : Ref) : AV.part 0 2 true (encRef x) = some (encDot x.D) := rfl
theorem pt_Ref1 (x : Ref) : AV.part 0 1 false (encRef x) = some (AV.int x.D.R) := rfl
theorem pt_Ref2 (x : Ref) : AV.part 1 1 false (encRef x) = some (AV.int x.D.N) := rfl
theorem pt_Ref3 (x : Ref) : AV.part 2 1 false (encRef x) = some (AV.int x.I) := rfl
theorem pt_Opn0 (x : Opn) : AV.part 0 1 false (encOpn x) = some (AV.int x.Kind) := rfl
theorem pt_Opn1 (x : Opn) : AV.part 1 1 false (encOpn x) = some ((encL 1 AV.str) x.Path) := rfl
theorem pt_Opn2 (x : Opn) : AV.part 2 3 true (encOpn x) = some (encVal x.V) := rfl
theorem pt_Opn3 (x : Opn) : AV.part 2 1 false (encOpn x) = some (AV.int x.V.Kind) := rfl
theorem pt_Opn4 (x : Opn) : AV.part 3 1 false (encOpn x) = some (AV.int x.V.N) := rfl
theorem pt_Opn5 (x : Opn) : AV.part 4 1 false (encOpn x) = some (AV.str x.V.S) := rfl
theorem pt_Opn6 (x : Opn) : AV.part 5 1 false (encOpn x) = some (AV.int x.N) := rfl
theorem pt_Opn7 (x : Opn) : AV.part 6 1 false (encOpn x) = some ((encL 3 encRef) x.Seen) := rfl
theorem pt_Txn0 (x : Txn) : AV.part 0 2 true (encTxn x) = some (encDot x.D) := rfl
theorem pt_Txn1 (x : Txn) : AV.part 0 1 false (encTxn x) = some (AV.int x.D.R) := rfl
theorem pt_Txn2 (x : Txn) : AV.part 1 1 false (encTxn x) = some (AV.int x.D.N) := rfl
theorem pt_Txn3 (x : Txn) : AV.part 2 1 false (encTxn x) = some (AV.int x.User) := rfl
theorem pt_Txn4 (x : Txn) : AV.part 3 1 false (encTxn x) = some (AV.int x.Time) := rfl
theorem pt_Txn5 (x : Txn) : AV.part 4 1 false (encTxn x) = some (AV.bool x.Thin) := rfl
theorem pt_Txn6 (x : Txn) : AV.part 5 1 false (encTxn x) = some ((encL 7 encOpn) x.Ops) := rfl
theorem pt_Dots0 (x : Dots) : AV.part 0 16 true (encDots x) = some (encVec x.V) := by
  have h := part_mid [] ((x.V.l.map AV.int)) ([((encL 2 encDot) x.More)]) (off := 0) (sz := 16) (by simp [Vec.h, Redo.h]) (by simp [Vec.h, Redo.h])
  simp only [encDots, encVec, encRedo, encTxn, encDelta, encState, encKnow, encUndo, encDot, encRecord, encMsg, List.append_assoc, List.cons_append, List.nil_append, List.append_nil] at h ⊢
  exact h
theorem pt_Dots1 (x : Dots) : AV.part 16 1 false (encDots x) = some ((encL 2 encDot) x.More) := by
  have h := part_one ((x.V.l.map AV.int)) ((encL 2 encDot) x.More) [] (off := 16) (by simp [Vec.h, Redo.h])
  simp only [encDots, encVec, encRedo, encTxn, encDelta, encState, encKnow, encUndo, encDot, encRecord, encMsg, List.append_assoc, List.cons_append, List.nil_append, List.append_nil] at h ⊢
  exact h
theorem pt_State0 (x : State) : AV.part 0 1 false (encState x) = some ((encL 6 encTxn) x.Txns) := by
  have h := part_one [] ((encL 6 encTxn) x.Txns) ([((encL 3 encUndo) x.Undos)] ++ ((x.Known.V.l.map AV.int) ++ ([((encL 2 encDot) x.Known.More)] ++ ((x.Sealed.V.l.map AV.int) ++ ([((encL 2 encDot) x.Sealed.More)] ++ ((x.Redo.l.map (encL 2 encDot)))))))) (off := 0) (by simp [Vec.h, Redo.h])
  simp only [encDots, encVec, encRedo, encTxn, encDelta, encState, encKnow, encUndo, encDot, encRecord, encMsg, List.append_assoc, List.cons_append, List.nil_append, List.append_nil] at h ⊢
  exact h
theorem pt_State1 (x : State) : AV.part 1 1 false (encState x) = some ((encL 3 encUndo) x.Undos) := by
  have h := part_one ([((encL 6 encTxn) x.Txns)]) ((encL 3 encUndo) x.Undos) ((x.Known.V.l.map AV.int) ++ ([((encL 2 encDot) x.Known.More)] ++ ((x.Sealed.V.l.map AV.int) ++ ([((encL 2 encDot) x.Sealed.More)] ++ ((x.Redo.l.map (encL 2 encDot))))))) (off := 1) (by simp [Vec.h, Redo.h])
  simp only [encDots, encVec, encRedo, encTxn, encDelta, encState, encKnow, encUndo, encDot, encRecord, encMsg, List.append_assoc, List.cons_append, List.nil_append, List.append_nil] at h ⊢
  exact h
theorem pt_State2 (x : State) : AV.part 2 17 true (encState x) = some (encDots x.Known) := by
  have h := part_mid ([((encL 6 encTxn) x.Txns), ((encL 3 encUndo) x.Undos)]) ((x.Known.V.l.map AV.int) ++ ([((encL 2 encDot) x.Known.More)])) ((x.Sealed.V.l.map AV.int) ++ ([((encL 2 encDot) x.Sealed.More)] ++ ((x.Redo.l.map (encL 2 encDot))))) (off := 2) (sz := 17) (by simp [Vec.h, Redo.h]) (by simp [Vec.h, Redo.h])
  simp only [encDots, encVec, encRedo, encTxn, encDelta, encState, encKnow, encUndo, encDot, encRecord, encMsg, List.append_assoc, List.cons_append, List.nil_append, List.append_nil] at h ⊢
  exact h
theorem pt_State3 (x : State) : AV.part 2 16 true (encState x) = some (encVec x.Known.V) := by
  have h := part_mid ([((encL 6 encTxn) x.Txns), ((encL 3 encUndo) x.Undos)]) ((x.Known.V.l.map AV.int)) ([((encL 2 encDot) x.Known.More)] ++ ((x.Sealed.V.l.map AV.int) ++ ([((encL 2 encDot) x.Sealed.More)] ++ ((x.Redo.l.map (encL 2 encDot)))))) (off := 2) (sz := 16) (by simp [Vec.h, Redo.h]) (by simp [Vec.h, Redo.h])
  simp only [encDots, encVec, encRedo, encTxn, encDelta, encState, encKnow, encUndo, encDot, encRecord, encMsg, List.append_assoc, List.cons_append, List.nil_append, List.append_nil] at h ⊢
  exact h
theorem pt_State4 (x : State) : AV.part 18 1 false (encState x) = some ((encL 2 encDot) x.Known.More) := by
  have h := part_one ([((encL 6 encTxn) x.Txns), ((encL 3 encUndo) x.Undos)] ++ ((x.Known.V.l.map AV.int))) ((encL 2 encDot) x.Known.More) ((x.Sealed.V.l.map AV.int) ++ ([((encL 2 encDot) x.Sealed.More)] ++ ((x.Redo.l.map (encL 2 encDot))))) (off := 18) (by simp [Vec.h, Redo.h])
  simp only [encDots, encVec, encRedo, encTxn, encDelta, encState, encKnow, encUndo, encDot, encRecord, encMsg, List.append_assoc, List.cons_append, List.nil_append, List.append_nil] at h ⊢
  exact h
theorem pt_State5 (x : State) : AV.part 19 17 true (encState x) = some (encDots x.Sealed) := by
  have h := part_mid ([((encL 6 encTxn) x.Txns), ((encL 3 encUndo) x.Undos)] ++ ((x.Known.V.l.map AV.int) ++ ([((encL 2 encDot) x.Known.More)]))) ((x.Sealed.V.l.map AV.int) ++ ([((encL 2 encDot) x.Sealed.More)])) ((x.Redo.l.map (encL 2 encDot))) (off := 19) (sz := 17) (by simp [Vec.h, Redo.h]) (by simp [Vec.h, Redo.h])
  simp only [encDots, encVec, encRedo, encTxn, encDelta, encState, encKnow, encUndo, encDot, encRecord, encMsg, List.append_assoc, List.cons_append, List.nil_append, List.append_nil] at h ⊢
  exact h
theorem pt_State6 (x : State) : AV.part 19 16 true (encState x) = some (encVec x.Sealed.V) := by
  have h := part_mid ([((encL 6 encTxn) x.Txns), ((encL 3 encUndo) x.Undos)] ++ ((x.Known.V.l.map AV.int) ++ ([((encL 2 encDot) x.Known.More)]))) ((x.Sealed.V.l.map AV.int)) ([((encL 2 encDot) x.Sealed.More)] ++ ((x.Redo.l.map (encL 2 encDot)))) (off := 19) (sz := 16) (by simp [Vec.h, Redo.h]) (by simp [Vec.h, Redo.h])
  simp only [encDots, encVec, encRedo, encTxn, encDelta, encState, encKnow, encUndo, encDot, encRecord, encMsg, List.append_assoc, List.cons_append, List.nil_append, List.append_nil] at h ⊢
  exact h
theorem pt_State7 (x : State) : AV.part 35 1 false (encState x) = some ((encL 2 encDot) x.Sealed.More) := by
  have h := part_one ([((encL 6 encTxn) x.Txns), ((encL 3 encUndo) x.Undos)] ++ ((x.Known.V.l.map AV.int) ++ ([((encL 2 encDot) x.Known.More)] ++ ((x.Sealed.V.l.map AV.int))))) ((encL 2 encDot) x.Sealed.More) ((x.Redo.l.map (encL 2 encDot))) (off := 35) (by simp [Vec.h, Redo.h])
  simp only [encDots, encVec, encRedo, encTxn, encDelta, encState, encKnow, encUndo, encDot, encRecord, encMsg, List.append_assoc, List.cons_append, List.nil_append, List.append_nil] at h ⊢
  exact h
theorem pt_State8 (x : State) : AV.part 36 8 true (encState x) = some (encRedo x.Redo) := by
  have h := part_mid ([((encL 6 encTxn) x.Txns), ((encL 3 encUndo) x.Undos)] ++ ((x.Known.V.l.map AV.int) ++ ([((encL 2 encDot) x.Known.More)] ++ ((x.Sealed.V.l.map AV.int) ++ ([((encL 2 encDot) x.Sealed.More)]))))) ((x.Redo.l.map (encL 2 encDot))) [] (off := 36) (sz := 8) (by simp [Vec.h, Redo.h]) (by simp [Vec.h, Redo.h])
  simp only [encDots, encVec, encRedo, encTxn, encDelta, encState, encKnow, encUndo, encDot, encRecord, encMsg, List.append_assoc, List.cons_append, List.nil_append, List.append_nil] at h ⊢
  exact h
theorem pt_Know0 (x : Know) : AV.part 0 17 true (encKnow x) = some (encDots x.Known) := by
  have h := part_mid [] ((x.Known.V.l.map AV.int) ++ ([((encL 2 encDot) x.Known.More)])) ([((encL 3 encUndo) x.Undos)] ++ ((x.Sealed.V.l.map AV.int) ++ ([((encL 2 encDot) x.Sealed.More)]))) (off := 0) (sz := 17) (by simp [Vec.h, Redo.h]) (by simp [Vec.h, Redo.h])
  simp only [encDots, encVec, encRedo, encTxn, encDelta, encState, encKnow, encUndo, encDot, encRecord, encMsg, List.append_assoc, List.cons_append, List.nil_append, List.append_nil] at h ⊢
  exact h
theorem pt_Know1 (x : Know) : AV.part 0 16 true (encKnow x) = some (encVec x.Known.V) := by
  have h := part_mid [] ((x.Known.V.l.map AV.int)) ([((encL 2 encDot) x.Known.More), ((encL 3 encUndo) x.Undos)] ++ ((x.Sealed.V.l.map AV.int) ++ ([((encL 2 encDot) x.Sealed.More)]))) (off := 0) (sz := 16) (by simp [Vec.h, Redo.h]) (by simp [Vec.h, Redo.h])
  simp only [encDots, encVec, encRedo, encTxn, encDelta, encState, encKnow, encUndo, encDot, encRecord, encMsg, List.append_assoc, List.cons_append, List.nil_append, List.append_nil] at h ⊢
  exact h
theorem pt_Know2 (x : Know) : AV.part 16 1 false (encKnow x) = some ((encL 2 encDot) x.Known.More) := by
  have h := part_one ((x.Known.V.l.map AV.int)) ((encL 2 encDot) x.Known.More) ([((encL 3 encUndo) x.Undos)] ++ ((x.Sealed.V.l.map AV.int) ++ ([((encL 2 encDot) x.Sealed.More)]))) (off := 16) (by simp [Vec.h, Redo.h])
  simp only [encDots, encVec, encRedo, encTxn, encDelta, encState, encKnow, encUndo, encDot, encRecord, encMsg, List.append_assoc, List.cons_append, List.nil_append, List.append_nil] at h ⊢
  exact h
theorem pt_Know3 (x : Know) : AV.part 17 1 false (encKnow x) = some ((encL 3 encUndo) x.Undos) := by
  have h := part_one ((x.Known.V.l.map AV.int) ++ ([((encL 2 encDot) x.Known.More)])) ((encL 3 encUndo) x.Undos) ((x.Sealed.V.l.map AV.int) ++ ([((encL 2 encDot) x.Sealed.More)])) (off := 17) (by simp [Vec.h, Redo.h])
  simp only [encDots, encVec, encRedo, encTxn, encDelta, encState, encKnow, encUndo, encDot, encRecord, encMsg, List.append_assoc, List.cons_append, List.nil_append, List.append_nil] at h ⊢
  exact h
theorem pt_Know4 (x : Know) : AV.part 18 17 true (encKnow x) = some (encDots x.Sealed) := by
  have h := part_mid ((x.Known.V.l.map AV.int) ++ ([((encL 2 encDot) x.Known.More), ((encL 3 encUndo) x.Undos)])) ((x.Sealed.V.l.map AV.int) ++ ([((encL 2 encDot) x.Sealed.More)])) [] (off := 18) (sz := 17) (by simp [Vec.h, Redo.h]) (by simp [Vec.h, Redo.h])
  simp only [encDots, encVec, encRedo, encTxn, encDelta, encState, encKnow, encUndo, encDot, encRecord, encMsg, List.append_assoc, List.cons_append, List.nil_append, List.append_nil] at h ⊢
  exact h
theorem pt_Know5 (x : Know) : AV.part 18 16 true (encKnow x) = some (encVec x.Sealed.V) := by
  have h := part_mid ((x.Known.V.l.map AV.int) ++ ([((encL 2 encDot) x.Known.More), ((encL 3 encUndo) x.Undos)])) ((x.Sealed.V.l.map AV.int)) ([((encL 2 encDot) x.Sealed.More)]) (off := 18) (sz := 16) (by simp [Vec.h, Redo.h]) (by simp [Vec.h, Redo.h])
  simp only [encDots, encVec, encRedo, encTxn, encDelta, encState, encKnow, encUndo, encDot, encRecord, encMsg, List.append_assoc, List.cons_append, List.nil_append, List.append_nil] at h ⊢
  exact h
theorem pt_Know6 (x : Know) : AV.part 34 1 false (encKnow x) = some ((encL 2 encDot) x.Sealed.More) := by
  have h := part_one ((x.Known.V.l.map AV.int) ++ ([((encL 2 encDot) x.Known.More), ((encL 3 encUndo) x.Undos)] ++ ((x.Sealed.V.l.map AV.int)))) ((encL 2 encDot) x.Sealed.More) [] (off := 34) (by simp [Vec.h, Redo.h])
  simp only [encDots, encVec, encRedo, encTxn, encDelta, encState, encKnow, encUndo, encDot, encRecord, encMsg, List.append_assoc, List.cons_append, List.nil_append, List.append_nil] at h ⊢
  exact h
theorem pt_Delta0 (x : Delta) : AV.part 0 1 false (encDelta x) = some ((encL 6 encTxn) x.Txns) := rfl
theorem pt_Delta1 (x : Delta) : AV.part 1 1 false (encDelta x) = some ((encL 3 encUndo) x.Undos) := rfl
theorem pt_Delta2 (x : Delta) : AV.part 2 1 false (encDelta x) = some ((encL 2 encDot) x.Sealed) := rfl
theorem pt_Record0 (x : Record) : AV.part 0 1 false (encRecord x) = some (AV.int x.Kind) := by
  have h := part_one [] (.int x.Kind) ([(.int x.T.D.R), (.int x.T.D.N), (.int x.T.User), (.int x.T.Time), (.bool x.T.Thin), ((encL 7 encOpn) x.T.Ops), (.int x.User), (.int x.U.D.R), (.int x.U.D.N), (.int x.U.N), (.int x.Back), ((encL 6 encTxn) x.D.Txns), ((encL 3 encUndo) x.D.Undos), ((encL 2 encDot) x.D.Sealed), ((encL 6 encTxn) x.S.Txns), ((encL 3 encUndo) x.S.Undos)] ++ ((x.S.Known.V.l.map AV.int) ++ ([((encL 2 encDot) x.S.Known.More)] ++ ((x.S.Sealed.V.l.map AV.int) ++ ([((encL 2 encDot) x.S.Sealed.More)] ++ ((x.S.Redo.l.map (encL 2 encDot)))))))) (off := 0) (by simp [Vec.h, Redo.h])
  simp only [encDots, encVec, encRedo, encTxn, encDelta, encState, encKnow, encUndo, encDot, encRecord, encMsg, List.append_assoc, List.cons_append, List.nil_append, List.append_nil] at h ⊢
  exact h
theorem pt_Record1 (x : Record) : AV.part 1 6 true (encRecord x) = some (encTxn x.T) := by
  have h := part_mid ([(.int x.Kind)]) ([(.int x.T.D.R), (.int x.T.D.N), (.int x.T.User), (.int x.T.Time), (.bool x.T.Thin), ((encL 7 encOpn) x.T.Ops)]) ([(.int x.User), (.int x.U.D.R), (.int x.U.D.N), (.int x.U.N), (.int x.Back), ((encL 6 encTxn) x.D.Txns), ((encL 3 encUndo) x.D.Undos), ((encL 2 encDot) x.D.Sealed), ((encL 6 encTxn) x.S.Txns), ((encL 3 encUndo) x.S.Undos)] ++ ((x.S.Known.V.l.map AV.int) ++ ([((encL 2 encDot) x.S.Known.More)] ++ ((x.S.Sealed.V.l.map AV.int) ++ ([((encL 2 encDot) x.S.Sealed.More)] ++ ((x.S.Redo.l.map (encL 2 encDot)))))))) (off := 1) (sz := 6) (by simp [Vec.h, Redo.h]) (by simp [Vec.h, Redo.h])
  simp only [encDots, encVec, encRedo, encTxn, encDelta, encState, encKnow, encUndo, encDot, encRecord, encMsg, List.append_assoc, List.cons_append, List.nil_append, List.append_nil] at h ⊢
  exact h
theorem pt_Record2 (x : Record) : AV.part 1 2 true (encRecord x) = some (encDot x.T.D) := by
  have h := part_mid ([(.int x.Kind)]) ([(.int x.T.D.R), (.int x.T.D.N)]) ([(.int x.T.User), (.int x.T.Time), (.bool x.T.Thin), ((encL 7 encOpn) x.T.Ops), (.int x.User), (.int x.U.D.R), (.int x.U.D.N), (.int x.U.N), (.int x.Back), ((encL 6 encTxn) x.D.Txns), ((encL 3 encUndo) x.D.Undos), ((encL 2 encDot) x.D.Sealed), ((encL 6 encTxn) x.S.Txns), ((encL 3 encUndo) x.S.Undos)] ++ ((x.S.Known.V.l.map AV.int) ++ ([((encL 2 encDot) x.S.Known.More)] ++ ((x.S.Sealed.V.l.map AV.int) ++ ([((encL 2 encDot) x.S.Sealed.More)] ++ ((x.S.Redo.l.map (encL 2 encDot)))))))) (off := 1) (sz := 2) (by simp [Vec.h, Redo.h]) (by simp [Vec.h, Redo.h])
  simp only [encDots, encVec, encRedo, encTxn, encDelta, encState, encKnow, encUndo, encDot, encRecord, encMsg, List.append_assoc, List.cons_append, List.nil_append, List.append_nil] at h ⊢
  exact h
theorem pt_Record3 (x : Record) : AV.part 1 1 false (encRecord x) = some (AV.int x.T.D.R) := by
  have h := part_one ([(.int x.Kind)]) (.int x.T.D.R) ([(.int x.T.D.N), (.int x.T.User), (.int x.T.Time), (.bool x.T.Thin), ((encL 7 encOpn) x.T.Ops), (.int x.User), (.int x.U.D.R), (.int x.U.D.N), (.int x.U.N), (.int x.Back), ((encL 6 encTxn) x.D.Txns), ((encL 3 encUndo) x.D.Undos), ((encL 2 encDot) x.D.Sealed), ((encL 6 encTxn) x.S.Txns), ((encL 3 encUndo) x.S.Undos)] ++ ((x.S.Known.V.l.map AV.int) ++ ([((encL 2 encDot) x.S.Known.More)] ++ ((x.S.Sealed.V.l.map AV.int) ++ ([((encL 2 encDot) x.S.Sealed.More)] ++ ((x.S.Redo.l.map (encL 2 encDot)))))))) (off := 1) (by simp [Vec.h, Redo.h])
  simp only [encDots, encVec, encRedo, encTxn, encDelta, encState, encKnow, encUndo, encDot, encRecord, encMsg, List.append_assoc, List.cons_append, List.nil_append, List.append_nil] at h ⊢
  exact h
theorem pt_Record4 (x : Record) : AV.part 2 1 false (encRecord x) = some (AV.int x.T.D.N) := by
  have h := part_one ([(.int x.Kind), (.int x.T.D.R)]) (.int x.T.D.N) ([(.int x.T.User), (.int x.T.Time), (.bool x.T.Thin), ((encL 7 encOpn) x.T.Ops), (.int x.User), (.int x.U.D.R), (.int x.U.D.N), (.int x.U.N), (.int x.Back), ((encL 6 encTxn) x.D.Txns), ((encL 3 encUndo) x.D.Undos), ((encL 2 encDot) x.D.Sealed), ((encL 6 encTxn) x.S.Txns), ((encL 3 encUndo) x.S.Undos)] ++ ((x.S.Known.V.l.map AV.int) ++ ([((encL 2 encDot) x.S.Known.More)] ++ ((x.S.Sealed.V.l.map AV.int) ++ ([((encL 2 encDot) x.S.Sealed.More)] ++ ((x.S.Redo.l.map (encL 2 encDot)))))))) (off := 2) (by simp [Vec.h, Redo.h])
  simp only [encDots, encVec, encRedo, encTxn, encDelta, encState, encKnow, encUndo, encDot, encRecord, encMsg, List.append_assoc, List.cons_append, List.nil_append, List.append_nil] at h ⊢
  exact h
theorem pt_Record5 (x : Record) : AV.part 3 1 false (encRecord x) = some (AV.int x.T.User) := by
  have h := part_one ([(.int x.Kind), (.int x.T.D.R), (.int x.T.D.N)]) (.int x.T.User) ([(.int x.T.Time), (.bool x.T.Thin), ((encL 7 encOpn) x.T.Ops), (.int x.User), (.int x.U.D.R), (.int x.U.D.N), (.int x.U.N), (.int x.Back), ((encL 6 encTxn) x.D.Txns), ((encL 3 encUndo) x.D.Undos), ((encL 2 encDot) x.D.Sealed), ((encL 6 encTxn) x.S.Txns), ((encL 3 encUndo) x.S.Undos)] ++ ((x.S.Known.V.l.map AV.int) ++ ([((encL 2 encDot) x.S.Known.More)] ++ ((x.S.Sealed.V.l.map AV.int) ++ ([((encL 2 encDot) x.S.Sealed.More)] ++ ((x.S.Redo.l.map (encL 2 encDot)))))))) (off := 3) (by simp [Vec.h, Redo.h])
  simp only [encDots, encVec, encRedo, encTxn, encDelta, encState, encKnow, encUndo, encDot, encRecord, encMsg, List.append_assoc, List.cons_append, List.nil_append, List.append_nil] at h ⊢
  exact h
theorem pt_Record6 (x : Record) : AV.part 4 1 false (encRecord x) = some (AV.int x.T.Time) := by
  have h := part_one ([(.int x.Kind), (.int x.T.D.R), (.int x.T.D.N), (.int x.T.User)]) (.int x.T.Time) ([(.bool x.T.Thin), ((encL 7 encOpn) x.T.Ops), (.int x.User), (.int x.U.D.R), (.int x.U.D.N), (.int x.U.N), (.int x.Back), ((encL 6 encTxn) x.D.Txns), ((encL 3 encUndo) x.D.Undos), ((encL 2 encDot) x.D.Sealed), ((encL 6 encTxn) x.S.Txns), ((encL 3 encUndo) x.S.Undos)] ++ ((x.S.Known.V.l.map AV.int) ++ ([((encL 2 encDot) x.S.Known.More)] ++ ((x.S.Sealed.V.l.map AV.int) ++ ([((encL 2 encDot) x.S.Sealed.More)] ++ ((x.S.Redo.l.map (encL 2 encDot)))))))) (off := 4) (by simp [Vec.h, Redo.h])
  simp only [encDots, encVec, encRedo, encTxn, encDelta, encState, encKnow, encUndo, encDot, encRecord, encMsg, List.append_assoc, List.cons_append, List.nil_append, List.append_nil] at h ⊢
  exact h
theorem pt_Record7 (x : Record) : AV.part 5 1 false (encRecord x) = some (AV.bool x.T.Thin) := by
  have h := part_one ([(.int x.Kind), (.int x.T.D.R), (.int x.T.D.N), (.int x.T.User), (.int x.T.Time)]) (.bool x.T.Thin) ([((encL 7 encOpn) x.T.Ops), (.int x.User), (.int x.U.D.R), (.int x.U.D.N), (.int x.U.N), (.int x.Back), ((encL 6 encTxn) x.D.Txns), ((encL 3 encUndo) x.D.Undos), ((encL 2 encDot) x.D.Sealed), ((encL 6 encTxn) x.S.Txns), ((encL 3 encUndo) x.S.Undos)] ++ ((x.S.Known.V.l.map AV.int) ++ ([((encL 2 encDot) x.S.Known.More)] ++ ((x.S.Sealed.V.l.map AV.int) ++ ([((encL 2 encDot) x.S.Sealed.More)] ++ ((x.S.Redo.l.map (encL 2 encDot)))))))) (off := 5) (by simp [Vec.h, Redo.h])
  simp only [encDots, encVec, encRedo, encTxn, encDelta, encState, encKnow, encUndo, encDot, encRecord, encMsg, List.append_assoc, List.cons_append, List.nil_append, List.append_nil] at h ⊢
  exact h
theorem pt_Record8 (x : Record) : AV.part 6 1 false (encRecord x) = some ((encL 7 encOpn) x.T.Ops) := by
  have h := part_one ([(.int x.Kind), (.int x.T.D.R), (.int x.T.D.N), (.int x.T.User), (.int x.T.Time), (.bool x.T.Thin)]) ((encL 7 encOpn) x.T.Ops) ([(.int x.User), (.int x.U.D.R), (.int x.U.D.N), (.int x.U.N), (.int x.Back), ((encL 6 encTxn) x.D.Txns), ((encL 3 encUndo) x.D.Undos), ((encL 2 encDot) x.D.Sealed), ((encL 6 encTxn) x.S.Txns), ((encL 3 encUndo) x.S.Undos)] ++ ((x.S.Known.V.l.map AV.int) ++ ([((encL 2 encDot) x.S.Known.More)] ++ ((x.S.Sealed.V.l.map AV.int) ++ ([((encL 2 encDot) x.S.Sealed.More)] ++ ((x.S.Redo.l.map (encL 2 encDot)))))))) (off := 6) (by simp [Vec.h, Redo.h])
  simp only [encDots, encVec, encRedo, encTxn, encDelta, encState, encKnow, encUndo, encDot, encRecord, encMsg, List.append_assoc, List.cons_append, List.nil_append, List.append_nil] at h ⊢
  exact h
theorem pt_Record9 (x : Record) : AV.part 7 1 false (encRecord x) = some (AV.int x.User) := by
  have h := part_one ([(.int x.Kind), (.int x.T.D.R), (.int x.T.D.N), (.int x.T.User), (.int x.T.Time), (.bool x.T.Thin), ((encL 7 encOpn) x.T.Ops)]) (.int x.User) ([(.int x.U.D.R), (.int x.U.D.N), (.int x.U.N), (.int x.Back), ((encL 6 encTxn) x.D.Txns), ((encL 3 encUndo) x.D.Undos), ((encL 2 encDot) x.D.Sealed), ((encL 6 encTxn) x.S.Txns), ((encL 3 encUndo) x.S.Undos)] ++ ((x.S.Known.V.l.map AV.int) ++ ([((encL 2 encDot) x.S.Known.More)] ++ ((x.S.Sealed.V.l.map AV.int) ++ ([((encL 2 encDot) x.S.Sealed.More)] ++ ((x.S.Redo.l.map (encL 2 encDot)))))))) (off := 7) (by simp [Vec.h, Redo.h])
  simp only [encDots, encVec, encRedo, encTxn, encDelta, encState, encKnow, encUndo, encDot, encRecord, encMsg, List.append_assoc, List.cons_append, List.nil_append, List.append_nil] at h ⊢
  exact h
theorem pt_Record10 (x : Record) : AV.part 8 3 true (encRecord x) = some (encUndo x.U) := by
  have h := part_mid ([(.int x.Kind), (.int x.T.D.R), (.int x.T.D.N), (.int x.T.User), (.int x.T.Time), (.bool x.T.Thin), ((encL 7 encOpn) x.T.Ops), (.int x.User)]) ([(.int x.U.D.R), (.int x.U.D.N), (.int x.U.N)]) ([(.int x.Back), ((encL 6 encTxn) x.D.Txns), ((encL 3 encUndo) x.D.Undos), ((encL 2 encDot) x.D.Sealed), ((encL 6 encTxn) x.S.Txns), ((encL 3 encUndo) x.S.Undos)] ++ ((x.S.Known.V.l.map AV.int) ++ ([((encL 2 encDot) x.S.Known.More)] ++ ((x.S.Sealed.V.l.map AV.int) ++ ([((encL 2 encDot) x.S.Sealed.More)] ++ ((x.S.Redo.l.map (encL 2 encDot)))))))) (off := 8) (sz := 3) (by simp [Vec.h, Redo.h]) (by simp [Vec.h, Redo.h])
  simp only [encDots, encVec, encRedo, encTxn, encDelta, encState, encKnow, encUndo, encDot, encRecord, encMsg, List.append_assoc, List.cons_append, List.nil_append, List.append_nil] at h ⊢
  exact h
theorem pt_Record11 (x : Record) : AV.part 8 2 true (encRecord x) = some (encDot x.U.D) := by
  have h := part_mid ([(.int x.Kind), (.int x.T.D.R), (.int x.T.D.N), (.int x.T.User), (.int x.T.Time), (.bool x.T.Thin), ((encL 7 encOpn) x.T.Ops), (.int x.User)]) ([(.int x.U.D.R), (.int x.U.D.N)]) ([(.int x.U.N), (.int x.Back), ((encL 6 encTxn) x.D.Txns), ((encL 3 encUndo) x.D.Undos), ((encL 2 encDot) x.D.Sealed), ((encL 6 encTxn) x.S.Txns), ((encL 3 encUndo) x.S.Undos)] ++ ((x.S.Known.V.l.map AV.int) ++ ([((encL 2 encDot) x.S.Known.More)] ++ ((x.S.Sealed.V.l.map AV.int) ++ ([((encL 2 encDot) x.S.Sealed.More)] ++ ((x.S.Redo.l.map (encL 2 encDot)))))))) (off := 8) (sz := 2) (by simp [Vec.h, Redo.h]) (by simp [Vec.h, Redo.h])
  simp only [encDots, encVec, encRedo, encTxn, encDelta, encState, encKnow, encUndo, encDot, encRecord, encMsg, List.append_assoc, List.cons_append, List.nil_append, List.append_nil] at h ⊢
  exact h
theorem pt_Record12 (x : Record) : AV.part 8 1 false (encRecord x) = some (AV.int x.U.D.R) := by
  have h := part_one ([(.int x.Kind), (.int x.T.D.R), (.int x.T.D.N), (.int x.T.User), (.int x.T.Time), (.bool x.T.Thin), ((encL 7 encOpn) x.T.Ops), (.int x.User)]) (.int x.U.D.R) ([(.int x.U.D.N), (.int x.U.N), (.int x.Back), ((encL 6 encTxn) x.D.Txns), ((encL 3 encUndo) x.D.Undos), ((encL 2 encDot) x.D.Sealed), ((encL 6 encTxn) x.S.Txns), ((encL 3 encUndo) x.S.Undos)] ++ ((x.S.Known.V.l.map AV.int) ++ ([((encL 2 encDot) x.S.Known.More)] ++ ((x.S.Sealed.V.l.map AV.int) ++ ([((encL 2 encDot) x.S.Sealed.More)] ++ ((x.S.Redo.l.map (encL 2 encDot)))))))) (off := 8) (by simp [Vec.h, Redo.h])
  simp only [encDots, encVec, encRedo, encTxn, encDelta, encState, encKnow, encUndo, encDot, encRecord, encMsg, List.append_assoc, List.cons_append, List.nil_append, List.append_nil] at h ⊢
  exact h
theorem pt_Record13 (x : Record) : AV.part 9 1 false (encRecord x) = some (AV.int x.U.D.N) := by
  have h := part_one ([(.int x.Kind), (.int x.T.D.R), (.int x.T.D.N), (.int x.T.User), (.int x.T.Time), (.bool x.T.Thin), ((encL 7 encOpn) x.T.Ops), (.int x.User), (.int x.U.D.R)]) (.int x.U.D.N) ([(.int x.U.N), (.int x.Back), ((encL 6 encTxn) x.D.Txns), ((encL 3 encUndo) x.D.Undos), ((encL 2 encDot) x.D.Sealed), ((encL 6 encTxn) x.S.Txns), ((encL 3 encUndo) x.S.Undos)] ++ ((x.S.Known.V.l.map AV.int) ++ ([((encL 2 encDot) x.S.Known.More)] ++ ((x.S.Sealed.V.l.map AV.int) ++ ([((encL 2 encDot) x.S.Sealed.More)] ++ ((x.S.Redo.l.map (encL 2 encDot)))))))) (off := 9) (by simp [Vec.h, Redo.h])
  simp only [encDots, encVec, encRedo, encTxn, encDelta, encState, encKnow, encUndo, encDot, encRecord, encMsg, List.append_assoc, List.cons_append, List.nil_append, List.append_nil] at h ⊢
  exact h
theorem pt_Record14 (x : Record) : AV.part 10 1 false (encRecord x) = some (AV.int x.U.N) := by
  have h := part_one ([(.int x.Kind), (.int x.T.D.R), (.int x.T.D.N), (.int x.T.User), (.int x.T.Time), (.bool x.T.Thin), ((encL 7 encOpn) x.T.Ops), (.int x.User), (.int x.U.D.R), (.int x.U.D.N)]) (.int x.U.N) ([(.int x.Back), ((encL 6 encTxn) x.D.Txns), ((encL 3 encUndo) x.D.Undos), ((encL 2 encDot) x.D.Sealed), ((encL 6 encTxn) x.S.Txns), ((encL 3 encUndo) x.S.Undos)] ++ ((x.S.Known.V.l.map AV.int) ++ ([((encL 2 encDot) x.S.Known.More)] ++ ((x.S.Sealed.V.l.map AV.int) ++ ([((encL 2 encDot) x.S.Sealed.More)] ++ ((x.S.Redo.l.map (encL 2 encDot)))))))) (off := 10) (by simp [Vec.h, Redo.h])
  simp only [encDots, encVec, encRedo, encTxn, encDelta, encState, encKnow, encUndo, encDot, encRecord, encMsg, List.append_assoc, List.cons_append, List.nil_append, List.append_nil] at h ⊢
  exact h
theorem pt_Record15 (x : Record) : AV.part 11 1 false (encRecord x) = some (AV.int x.Back) := by
  have h := part_one ([(.int x.Kind), (.int x.T.D.R), (.int x.T.D.N), (.int x.T.User), (.int x.T.Time), (.bool x.T.Thin), ((encL 7 encOpn) x.T.Ops), (.int x.User), (.int x.U.D.R), (.int x.U.D.N), (.int x.U.N)]) (.int x.Back) ([((encL 6 encTxn) x.D.Txns), ((encL 3 encUndo) x.D.Undos), ((encL 2 encDot) x.D.Sealed), ((encL 6 encTxn) x.S.Txns), ((encL 3 encUndo) x.S.Undos)] ++ ((x.S.Known.V.l.map AV.int) ++ ([((encL 2 encDot) x.S.Known.More)] ++ ((x.S.Sealed.V.l.map AV.int) ++ ([((encL 2 encDot) x.S.Sealed.More)] ++ ((x.S.Redo.l.map (encL 2 encDot)))))))) (off := 11) (by simp [Vec.h, Redo.h])
  simp only [encDots, encVec, encRedo, encTxn, encDelta, encState, encKnow, encUndo, encDot, encRecord, encMsg, List.append_assoc, List.cons_append, List.nil_append, List.append_nil] at h ⊢
  exact h
theorem pt_Record16 (x : Record) : AV.part 12 3 true (encRecord x) = some (encDelta x.D) := by
  have h := part_mid ([(.int x.Kind), (.int x.T.D.R), (.int x.T.D.N), (.int x.T.User), (.int x.T.Time), (.bool x.T.Thin), ((encL 7 encOpn) x.T.Ops), (.int x.User), (.int x.U.D.R), (.int x.U.D.N), (.int x.U.N), (.int x.Back)]) ([((encL 6 encTxn) x.D.Txns), ((encL 3 encUndo) x.D.Undos), ((encL 2 encDot) x.D.Sealed)]) ([((encL 6 encTxn) x.S.Txns), ((encL 3 encUndo) x.S.Undos)] ++ ((x.S.Known.V.l.map AV.int) ++ ([((encL 2 encDot) x.S.Known.More)] ++ ((x.S.Sealed.V.l.map AV.int) ++ ([((encL 2 encDot) x.S.Sealed.More)] ++ ((x.S.Redo.l.map (encL 2 encDot)))))))) (off := 12) (sz := 3) (by simp [Vec.h, Redo.h]) (by simp [Vec.h, Redo.h])
  simp only [encDots, encVec, encRedo, encTxn, encDelta, encState, encKnow, encUndo, encDot, encRecord, encMsg, List.append_assoc, List.cons_append, List.nil_append, List.append_nil] at h ⊢
  exact h
theorem pt_Record17 (x : Record) : AV.part 12 1 false (encRecord x) = some ((encL 6 encTxn) x.D.Txns) := by
  have h := part_one ([(.int x.Kind), (.int x.T.D.R), (.int x.T.D.N), (.int x.T.User), (.int x.T.Time), (.bool x.T.Thin), ((encL 7 encOpn) x.T.Ops), (.int x.User), (.int x.U.D.R), (.int x.U.D.N), (.int x.U.N), (.int x.Back)]) ((encL 6 encTxn) x.D.Txns) ([((encL 3 encUndo) x.D.Undos), ((encL 2 encDot) x.D.Sealed), ((encL 6 encTxn) x.S.Txns), ((encL 3 encUndo) x.S.Undos)] ++ ((x.S.Known.V.l.map AV.int) ++ ([((encL 2 encDot) x.S.Known.More)] ++ ((x.S.Sealed.V.l.map AV.int) ++ ([((encL 2 encDot) x.S.Sealed.More)] ++ ((x.S.Redo.l.map (encL 2 encDot)))))))) (off := 12) (by simp [Vec.h, Redo.h])
  simp only [encDots, encVec, encRedo, encTxn, encDelta, encState, encKnow, encUndo, encDot, encRecord, encMsg, List.append_assoc, List.cons_append, List.nil_append, List.append_nil] at h ⊢
  exact h
theorem pt_Record18 (x : Record) : AV.part 13 1 false (encRecord x) = some ((encL 3 encUndo) x.D.Undos) := by
  have h := part_one ([(.int x.Kind), (.int x.T.D.R), (.int x.T.D.N), (.int x.T.User), (.int x.T.Time), (.bool x.T.Thin), ((encL 7 encOpn) x.T.Ops), (.int x.User), (.int x.U.D.R), (.int x.U.D.N), (.int x.U.N), (.int x.Back), ((encL 6 encTxn) x.D.Txns)]) ((encL 3 encUndo) x.D.Undos) ([((encL 2 encDot) x.D.Sealed), ((encL 6 encTxn) x.S.Txns), ((encL 3 encUndo) x.S.Undos)] ++ ((x.S.Known.V.l.map AV.int) ++ ([((encL 2 encDot) x.S.Known.More)] ++ ((x.S.Sealed.V.l.map AV.int) ++ ([((encL 2 encDot) x.S.Sealed.More)] ++ ((x.S.Redo.l.map (encL 2 encDot)))))))) (off := 13) (by simp [Vec.h, Redo.h])
  simp only [encDots, encVec, encRedo, encTxn, encDelta, encState, encKnow, encUndo, encDot, encRecord, encMsg, List.append_assoc, List.cons_append, List.nil_append, List.append_nil] at h ⊢
  exact h
theorem pt_Record19 (x : Record) : AV.part 14 1 false (encRecord x) = some ((encL 2 encDot) x.D.Sealed) := by
  have h := part_one ([(.int x.Kind), (.int x.T.D.R), (.int x.T.D.N), (.int x.T.User), (.int x.T.Time), (.bool x.T.Thin), ((encL 7 encOpn) x.T.Ops), (.int x.User), (.int x.U.D.R), (.int x.U.D.N), (.int x.U.N), (.int x.Back), ((encL 6 encTxn) x.D.Txns), ((encL 3 encUndo) x.D.Undos)]) ((encL 2 encDot) x.D.Sealed) ([((encL 6 encTxn) x.S.Txns), ((encL 3 encUndo) x.S.Undos)] ++ ((x.S.Known.V.l.map AV.int) ++ ([((encL 2 encDot) x.S.Known.More)] ++ ((x.S.Sealed.V.l.map AV.int) ++ ([((encL 2 encDot) x.S.Sealed.More)] ++ ((x.S.Redo.l.map (encL 2 encDot)))))))) (off := 14) (by simp [Vec.h, Redo.h])
  simp only [encDots, encVec, encRedo, encTxn, encDelta, encState, encKnow, encUndo, encDot, encRecord, encMsg, List.append_assoc, List.cons_append, List.nil_append, List.append_nil] at h ⊢
  exact h
theorem pt_Record20 (x : Record) : AV.part 15 44 true (encRecord x) = some (encState x.S) := by
  have h := part_mid ([(.int x.Kind), (.int x.T.D.R), (.int x.T.D.N), (.int x.T.User), (.int x.T.Time), (.bool x.T.Thin), ((encL 7 encOpn) x.T.Ops), (.int x.User), (.int x.U.D.R), (.int x.U.D.N), (.int x.U.N), (.int x.Back), ((encL 6 encTxn) x.D.Txns), ((encL 3 encUndo) x.D.Undos), ((encL 2 encDot) x.D.Sealed)]) ([((encL 6 encTxn) x.S.Txns), ((encL 3 encUndo) x.S.Undos)] ++ ((x.S.Known.V.l.map AV.int) ++ ([((encL 2 encDot) x.S.Known.More)] ++ ((x.S.Sealed.V.l.map AV.int) ++ ([((encL 2 encDot) x.S.Sealed.More)] ++ ((x.S.Redo.l.map (encL 2 encDot)))))))) [] (off := 15) (sz := 44) (by simp [Vec.h, Redo.h]) (by simp [Vec.h, Redo.h])
  simp only [encDots, encVec, encRedo, encTxn, encDelta, encState, encKnow, encUndo, encDot, encRecord, encMsg, List.append_assoc, List.cons_append, List.nil_append, List.append_nil] at h ⊢
  exact h
theorem pt_Record21 (x : Record) : AV.part 15 1 false (encRecord x) = some ((encL 6 encTxn) x.S.Txns) := by
  have h := part_one ([(.int x.Kind), (.int x.T.D.R), (.int x.T.D.N), (.int x.T.User), (.int x.T.Time), (.bool x.T.Thin), ((encL 7 encOpn) x.T.Ops), (.int x.User), (.int x.U.D.R), (.int x.U.D.N), (.int x.U.N), (.int x.Back), ((encL 6 encTxn) x.D.Txns), ((encL 3 encUndo) x.D.Undos), ((encL 2 encDot) x.D.Sealed)]) ((encL 6 encTxn) x.S.Txns) ([((encL 3 encUndo) x.S.Undos)] ++ ((x.S.Known.V.l.map AV.int) ++ ([((encL 2 encDot) x.S.Known.More)] ++ ((x.S.Sealed.V.l.map AV.int) ++ ([((encL 2 encDot) x.S.Sealed.More)] ++ ((x.S.Redo.l.map (encL 2 encDot)))))))) (off := 15) (by simp [Vec.h, Redo.h])
  simp only [encDots, encVec, encRedo, encTxn, encDelta, encState, encKnow, encUndo, encDot, encRecord, encMsg, List.append_assoc, List.cons_append, List.nil_append, List.append_nil] at h ⊢
  exact h
theorem pt_Record22 (x : Record) : AV.part 16 1 false (encRecord x) = some ((encL 3 encUndo) x.S.Undos) := by
  have h := part_one ([(.int x.Kind), (.int x.T.D.R), (.int x.T.D.N), (.int x.T.User), (.int x.T.Time), (.bool x.T.Thin), ((encL 7 encOpn) x.T.Ops), (.int x.User), (.int x.U.D.R), (.int x.U.D.N), (.int x.U.N), (.int x.Back), ((encL 6 encTxn) x.D.Txns), ((encL 3 encUndo) x.D.Undos), ((encL 2 encDot) x.D.Sealed), ((encL 6 encTxn) x.S.Txns)]) ((encL 3 encUndo) x.S.Undos) ((x.S.Known.V.l.map AV.int) ++ ([((encL 2 encDot) x.S.Known.More)] ++ ((x.S.Sealed.V.l.map AV.int) ++ ([((encL 2 encDot) x.S.Sealed.More)] ++ ((x.S.Redo.l.map (encL 2 encDot))))))) (off := 16) (by simp [Vec.h, Redo.h])
  simp only [encDots, encVec, encRedo, encTxn, encDelta, encState, encKnow, encUndo, encDot, encRecord, encMsg, List.append_assoc, List.cons_append, List.nil_append, List.append_nil] at h ⊢
  exact h
theorem pt_Record23 (x : Record) : AV.part 17 17 true (encRecord x) = some (encDots x.S.Known) := by
  have h := part_mid ([(.int x.Kind), (.int x.T.D.R), (.int x.T.D.N), (.int x.T.User), (.int x.T.Time), (.bool x.T.Thin), ((encL 7 encOpn) x.T.Ops), (.int x.User), (.int x.U.D.R), (.int x.U.D.N), (.int x.U.N), (.int x.Back), ((encL 6 encTxn) x.D.Txns), ((encL 3 encUndo) x.D.Undos), ((encL 2 encDot) x.D.Sealed), ((encL 6 encTxn) x.S.Txns), ((encL 3 encUndo) x.S.Undos)]) ((x.S.Known.V.l.map AV.int) ++ ([((encL 2 encDot) x.S.Known.More)])) ((x.S.Sealed.V.l.map AV.int) ++ ([((encL 2 encDot) x.S.Sealed.More)] ++ ((x.S.Redo.l.map (encL 2 encDot))))) (off := 17) (sz := 17) (by simp [Vec.h, Redo.h]) (by simp [Vec.h, Redo.h])
  simp only [encDots, encVec, encRedo, encTxn, encDelta, encState, encKnow, encUndo, encDot, encRecord, encMsg, List.append_assoc, List.cons_append, List.nil_append, List.append_nil] at h ⊢
  exact h
theorem pt_Record24 (x : Record) : AV.part 17 16 true (encRecord x) = some (encVec x.S.Known.V) := by
  have h := part_mid ([(.int x.Kind), (.int x.T.D.R), (.int x.T.D.N), (.int x.T.User), (.int x.T.Time), (.bool x.T.Thin), ((encL 7 encOpn) x.T.Ops), (.int x.User), (.int x.U.D.R), (.int x.U.D.N), (.int x.U.N), (.int x.Back), ((encL 6 encTxn) x.D.Txns), ((encL 3 encUndo) x.D.Undos), ((encL 2 encDot) x.D.Sealed), ((encL 6 encTxn) x.S.Txns), ((encL 3 encUndo) x.S.Undos)]) ((x.S.Known.V.l.map AV.int)) ([((encL 2 encDot) x.S.Known.More)] ++ ((x.S.Sealed.V.l.map AV.int) ++ ([((encL 2 encDot) x.S.Sealed.More)] ++ ((x.S.Redo.l.map (encL 2 encDot)))))) (off := 17) (sz := 16) (by simp [Vec.h, Redo.h]) (by simp [Vec.h, Redo.h])
  simp only [encDots, encVec, encRedo, encTxn, encDelta, encState, encKnow, encUndo, encDot, encRecord, encMsg, List.append_assoc, List.cons_append, List.nil_append, List.append_nil] at h ⊢
  exact h
theorem pt_Record25 (x : Record) : AV.part 33 1 false (encRecord x) = some ((encL 2 encDot) x.S.Known.More) := by
  have h := part_one ([(.int x.Kind), (.int x.T.D.R), (.int x.T.D.N), (.int x.T.User), (.int x.T.Time), (.bool x.T.Thin), ((encL 7 encOpn) x.T.Ops), (.int x.User), (.int x.U.D.R), (.int x.U.D.N), (.int x.U.N), (.int x.Back), ((encL 6 encTxn) x.D.Txns), ((encL 3 encUndo) x.D.Undos), ((encL 2 encDot) x.D.Sealed), ((encL 6 encTxn) x.S.Txns), ((encL 3 encUndo) x.S.Undos)] ++ ((x.S.Known.V.l.map AV.int))) ((encL 2 encDot) x.S.Known.More) ((x.S.Sealed.V.l.map AV.int) ++ ([((encL 2 encDot) x.S.Sealed.More)] ++ ((x.S.Redo.l.map (encL 2 encDot))))) (off := 33) (by simp [Vec.h, Redo.h])
  simp only [encDots, encVec, encRedo, encTxn, encDelta, encState, encKnow, encUndo, encDot, encRecord, encMsg, List.append_assoc, List.cons_append, List.nil_append, List.append_nil] at h ⊢
  exact h
theorem pt_Record26 (x : Record) : AV.part 34 17 true (encRecord x) = some (encDots x.S.Sealed) := by
  have h := part_mid ([(.int x.Kind), (.int x.T.D.R), (.int x.T.D.N), (.int x.T.User), (.int x.T.Time), (.bool x.T.Thin), ((encL 7 encOpn) x.T.Ops), (.int x.User), (.int x.U.D.R), (.int x.U.D.N), (.int x.U.N), (.int x.Back), ((encL 6 encTxn) x.D.Txns), ((encL 3 encUndo) x.D.Undos), ((encL 2 encDot) x.D.Sealed), ((encL 6 encTxn) x.S.Txns), ((encL 3 encUndo) x.S.Undos)] ++ ((x.S.Known.V.l.map AV.int) ++ ([((encL 2 encDot) x.S.Known.More)]))) ((x.S.Sealed.V.l.map AV.int) ++ ([((encL 2 encDot) x.S.Sealed.More)])) ((x.S.Redo.l.map (encL 2 encDot))) (off := 34) (sz := 17) (by simp [Vec.h, Redo.h]) (by simp [Vec.h, Redo.h])
  simp only [encDots, encVec, encRedo, encTxn, encDelta, encState, encKnow, encUndo, encDot, encRecord, encMsg, List.append_assoc, List.cons_append, List.nil_append, List.append_nil] at h ⊢
  exact h
theorem pt_Record27 (x : Record) : AV.part 34 16 true (encRecord x) = some (encVec x.S.Sealed.V) := by
  have h := part_mid ([(.int x.Kind), (.int x.T.D.R), (.int x.T.D.N), (.int x.T.User), (.int x.T.Time), (.bool x.T.Thin), ((encL 7 encOpn) x.T.Ops), (.int x.User), (.int x.U.D.R), (.int x.U.D.N), (.int x.U.N), (.int x.Back), ((encL 6 encTxn) x.D.Txns), ((encL 3 encUndo) x.D.Undos), ((encL 2 encDot) x.D.Sealed), ((encL 6 encTxn) x.S.Txns), ((encL 3 encUndo) x.S.Undos)] ++ ((x.S.Known.V.l.map AV.int) ++ ([((encL 2 encDot) x.S.Known.More)]))) ((x.S.Sealed.V.l.map AV.int)) ([((encL 2 encDot) x.S.Sealed.More)] ++ ((x.S.Redo.l.map (encL 2 encDot)))) (off := 34) (sz := 16) (by simp [Vec.h, Redo.h]) (by simp [Vec.h, Redo.h])
  simp only [encDots, encVec, encRedo, encTxn, encDelta, encState, encKnow, encUndo, encDot, encRecord, encMsg, List.append_assoc, List.cons_append, List.nil_append, List.append_nil] at h ⊢
  exact h
theorem pt_Record28 (x : Record) : AV.part 50 1 false (encRecord x) = some ((encL 2 encDot) x.S.Sealed.More) := by
  have h := part_one ([(.int x.Kind), (.int x.T.D.R), (.int x.T.D.N), (.int x.T.User), (.int x.T.Time), (.bool x.T.Thin), ((encL 7 encOpn) x.T.Ops), (.int x.User), (.int x.U.D.R), (.int x.U.D.N), (.int x.U.N), (.int x.Back), ((encL 6 encTxn) x.D.Txns), ((encL 3 encUndo) x.D.Undos), ((encL 2 encDot) x.D.Sealed), ((encL 6 encTxn) x.S.Txns), ((encL 3 encUndo) x.S.Undos)] ++ ((x.S.Known.V.l.map AV.int) ++ ([((encL 2 encDot) x.S.Known.More)] ++ ((x.S.Sealed.V.l.map AV.int))))) ((encL 2 encDot) x.S.Sealed.More) ((x.S.Redo.l.map (encL 2 encDot))) (off := 50) (by simp [Vec.h, Redo.h])
  simp only [encDots, encVec, encRedo, encTxn, encDelta, encState, encKnow, encUndo, encDot, encRecord, encMsg, List.append_assoc, List.cons_append, List.nil_append, List.append_nil] at h ⊢
  exact h
theorem pt_Record29 (x : Record) : AV.part 51 8 true (encRecord x) = some (encRedo x.S.Redo) := by
  have h := part_mid ([(.int x.Kind), (.int x.T.D.R), (.int x.T.D.N), (.int x.T.User), (.int x.T.Time), (.bool x.T.Thin), ((encL 7 encOpn) x.T.Ops), (.int x.User), (.int x.U.D.R), (.int x.U.D.N), (.int x.U.N), (.int x.Back), ((encL 6 encTxn) x.D.Txns), ((encL 3 encUndo) x.D.Undos), ((encL 2 encDot) x.D.Sealed), ((encL 6 encTxn) x.S.Txns), ((encL 3 encUndo) x.S.Undos)] ++ ((x.S.Known.V.l.map AV.int) ++ ([((encL 2 encDot) x.S.Known.More)] ++ ((x.S.Sealed.V.l.map AV.int) ++ ([((encL 2 encDot) x.S.Sealed.More)]))))) ((x.S.Redo.l.map (encL 2 encDot))) [] (off := 51) (sz := 8) (by simp [Vec.h, Redo.h]) (by simp [Vec.h, Redo.h])
  simp only [encDots, encVec, encRedo, encTxn, encDelta, encState, encKnow, encUndo, encDot, encRecord, encMsg, List.append_assoc, List.cons_append, List.nil_append, List.append_nil] at h ⊢
  exact h
theorem pt_Msg0 (x : Msg) : AV.part 0 1 false (encMsg x) = some (AV.int x.Kind) := by
  have h := part_one [] (.int x.Kind) ([(.int x.From), (.int x.To), ((encL 6 encTxn) x.D.Txns), ((encL 3 encUndo) x.D.Undos), ((encL 2 encDot) x.D.Sealed)] ++ ((x.K.Known.V.l.map AV.int) ++ ([((encL 2 encDot) x.K.Known.More), ((encL 3 encUndo) x.K.Undos)] ++ ((x.K.Sealed.V.l.map AV.int) ++ ([((encL 2 encDot) x.K.Sealed.More)]))))) (off := 0) (by simp [Vec.h, Redo.h])
  simp only [encDots, encVec, encRedo, encTxn, encDelta, encState, encKnow, encUndo, encDot, encRecord, encMsg, List.append_assoc, List.cons_append, List.nil_append, List.append_nil] at h ⊢
  exact h
theorem pt_Msg1 (x : Msg) : AV.part 1 1 false (encMsg x) = some (AV.int x.From) := by
  have h := part_one ([(.int x.Kind)]) (.int x.From) ([(.int x.To), ((encL 6 encTxn) x.D.Txns), ((encL 3 encUndo) x.D.Undos), ((encL 2 encDot) x.D.Sealed)] ++ ((x.K.Known.V.l.map AV.int) ++ ([((encL 2 encDot) x.K.Known.More), ((encL 3 encUndo) x.K.Undos)] ++ ((x.K.Sealed.V.l.map AV.int) ++ ([((encL 2 encDot) x.K.Sealed.More)]))))) (off := 1) (by simp [Vec.h, Redo.h])
  simp only [encDots, encVec, encRedo, encTxn, encDelta, encState, encKnow, encUndo, encDot, encRecord, encMsg, List.append_assoc, List.cons_append, List.nil_append, List.append_nil] at h ⊢
  exact h
theorem pt_Msg2 (x : Msg) : AV.part 2 1 false (encMsg x) = some (AV.int x.To) := by
  have h := part_one ([(.int x.Kind), (.int x.From)]) (.int x.To) ([((encL 6 encTxn) x.D.Txns), ((encL 3 encUndo) x.D.Undos), ((encL 2 encDot) x.D.Sealed)] ++ ((x.K.Known.V.l.map AV.int) ++ ([((encL 2 encDot) x.K.Known.More), ((encL 3 encUndo) x.K.Undos)] ++ ((x.K.Sealed.V.l.map AV.int) ++ ([((encL 2 encDot) x.K.Sealed.More)]))))) (off := 2) (by simp [Vec.h, Redo.h])
  simp only [encDots, encVec, encRedo, encTxn, encDelta, encState, encKnow, encUndo, encDot, encRecord, encMsg, List.append_assoc, List.cons_append, List.nil_append, List.append_nil] at h ⊢
  exact h
theorem pt_Msg3 (x : Msg) : AV.part 3 3 true (encMsg x) = some (encDelta x.D) := by
  have h := part_mid ([(.int x.Kind), (.int x.From), (.int x.To)]) ([((encL 6 encTxn) x.D.Txns), ((encL 3 encUndo) x.D.Undos), ((encL 2 encDot) x.D.Sealed)]) ((x.K.Known.V.l.map AV.int) ++ ([((encL 2 encDot) x.K.Known.More), ((encL 3 encUndo) x.K.Undos)] ++ ((x.K.Sealed.V.l.map AV.int) ++ ([((encL 2 encDot) x.K.Sealed.More)])))) (off := 3) (sz := 3) (by simp [Vec.h, Redo.h]) (by simp [Vec.h, Redo.h])
  simp only [encDots, encVec, encRedo, encTxn, encDelta, encState, encKnow, encUndo, encDot, encRecord, encMsg, List.append_assoc, List.cons_append, List.nil_append, List.append_nil] at h ⊢
  exact h
theorem pt_Msg4 (x : Msg) : AV.part 3 1 false (encMsg x) = some ((encL 6 encTxn) x.D.Txns) := by
  have h := part_one ([(.int x.Kind), (.int x.From), (.int x.To)]) ((encL 6 encTxn) x.D.Txns) ([((encL 3 encUndo) x.D.Undos), ((encL 2 encDot) x.D.Sealed)] ++ ((x.K.Known.V.l.map AV.int) ++ ([((encL 2 encDot) x.K.Known.More), ((encL 3 encUndo) x.K.Undos)] ++ ((x.K.Sealed.V.l.map AV.int) ++ ([((encL 2 encDot) x.K.Sealed.More)]))))) (off := 3) (by simp [Vec.h, Redo.h])
  simp only [encDots, encVec, encRedo, encTxn, encDelta, encState, encKnow, encUndo, encDot, encRecord, encMsg, List.append_assoc, List.cons_append, List.nil_append, List.append_nil] at h ⊢
  exact h
theorem pt_Msg5 (x : Msg) : AV.part 4 1 false (encMsg x) = some ((encL 3 encUndo) x.D.Undos) := by
  have h := part_one ([(.int x.Kind), (.int x.From), (.int x.To), ((encL 6 encTxn) x.D.Txns)]) ((encL 3 encUndo) x.D.Undos) ([((encL 2 encDot) x.D.Sealed)] ++ ((x.K.Known.V.l.map AV.int) ++ ([((encL 2 encDot) x.K.Known.More), ((encL 3 encUndo) x.K.Undos)] ++ ((x.K.Sealed.V.l.map AV.int) ++ ([((encL 2 encDot) x.K.Sealed.More)]))))) (off := 4) (by simp [Vec.h, Redo.h])
  simp only [encDots, encVec, encRedo, encTxn, encDelta, encState, encKnow, encUndo, encDot, encRecord, encMsg, List.append_assoc, List.cons_append, List.nil_append, List.append_nil] at h ⊢
  exact h
theorem pt_Msg6 (x : Msg) : AV.part 5 1 false (encMsg x) = some ((encL 2 encDot) x.D.Sealed) := by
  have h := part_one ([(.int x.Kind), (.int x.From), (.int x.To), ((encL 6 encTxn) x.D.Txns), ((encL 3 encUndo) x.D.Undos)]) ((encL 2 encDot) x.D.Sealed) ((x.K.Known.V.l.map AV.int) ++ ([((encL 2 encDot) x.K.Known.More), ((encL 3 encUndo) x.K.Undos)] ++ ((x.K.Sealed.V.l.map AV.int) ++ ([((encL 2 encDot) x.K.Sealed.More)])))) (off := 5) (by simp [Vec.h, Redo.h])
  simp only [encDots, encVec, encRedo, encTxn, encDelta, encState, encKnow, encUndo, encDot, encRecord, encMsg, List.append_assoc, List.cons_append, List.nil_append, List.append_nil] at h ⊢
  exact h
theorem pt_Msg7 (x : Msg) : AV.part 6 35 true (encMsg x) = some (encKnow x.K) := by
  have h := part_mid ([(.int x.Kind), (.int x.From), (.int x.To), ((encL 6 encTxn) x.D.Txns), ((encL 3 encUndo) x.D.Undos), ((encL 2 encDot) x.D.Sealed)]) ((x.K.Known.V.l.map AV.int) ++ ([((encL 2 encDot) x.K.Known.More), ((encL 3 encUndo) x.K.Undos)] ++ ((x.K.Sealed.V.l.map AV.int) ++ ([((encL 2 encDot) x.K.Sealed.More)])))) [] (off := 6) (sz := 35) (by simp [Vec.h, Redo.h]) (by simp [Vec.h, Redo.h])
  simp only [encDots, encVec, encRedo, encTxn, encDelta, encState, encKnow, encUndo, encDot, encRecord, encMsg, List.append_assoc, List.cons_append, List.nil_append, List.append_nil] at h ⊢
  exact h
theorem pt_Msg8 (x : Msg) : AV.part 6 17 true (encMsg x) = some (encDots x.K.Known) := by
  have h := part_mid ([(.int x.Kind), (.int x.From), (.int x.To), ((encL 6 encTxn) x.D.Txns), ((encL 3 encUndo) x.D.Undos), ((encL 2 encDot) x.D.Sealed)]) ((x.K.Known.V.l.map AV.int) ++ ([((encL 2 encDot) x.K.Known.More)])) ([((encL 3 encUndo) x.K.Undos)] ++ ((x.K.Sealed.V.l.map AV.int) ++ ([((encL 2 encDot) x.K.Sealed.More)]))) (off := 6) (sz := 17) (by simp [Vec.h, Redo.h]) (by simp [Vec.h, Redo.h])
  simp only [encDots, encVec, encRedo, encTxn, encDelta, encState, encKnow, encUndo, encDot, encRecord, encMsg, List.append_assoc, List.cons_append, List.nil_append, List.append_nil] at h ⊢
  exact h
theorem pt_Msg9 (x : Msg) : AV.part 6 16 true (encMsg x) = some (encVec x.K.Known.V) := by
  have h := part_mid ([(.int x.Kind), (.int x.From), (.int x.To), ((encL 6 encTxn) x.D.Txns), ((encL 3 encUndo) x.D.Undos), ((encL 2 encDot) x.D.Sealed)]) ((x.K.Known.V.l.map AV.int)) ([((encL 2 encDot) x.K.Known.More), ((encL 3 encUndo) x.K.Undos)] ++ ((x.K.Sealed.V.l.map AV.int) ++ ([((encL 2 encDot) x.K.Sealed.More)]))) (off := 6) (sz := 16) (by simp [Vec.h, Redo.h]) (by simp [Vec.h, Redo.h])
  simp only [encDots, encVec, encRedo, encTxn, encDelta, encState, encKnow, encUndo, encDot, encRecord, encMsg, List.append_assoc, List.cons_append, List.nil_append, List.append_nil] at h ⊢
  exact h
theorem pt_Msg10 (x : Msg) : AV.part 22 1 false (encMsg x) = some ((encL 2 encDot) x.K.Known.More) := by
  have h := part_one ([(.int x.Kind), (.int x.From), (.int x.To), ((encL 6 encTxn) x.D.Txns), ((encL 3 encUndo) x.D.Undos), ((encL 2 encDot) x.D.Sealed)] ++ ((x.K.Known.V.l.map AV.int))) ((encL 2 encDot) x.K.Known.More) ([((encL 3 encUndo) x.K.Undos)] ++ ((x.K.Sealed.V.l.map AV.int) ++ ([((encL 2 encDot) x.K.Sealed.More)]))) (off := 22) (by simp [Vec.h, Redo.h])
  simp only [encDots, encVec, encRedo, encTxn, encDelta, encState, encKnow, encUndo, encDot, encRecord, encMsg, List.append_assoc, List.cons_append, List.nil_append, List.append_nil] at h ⊢
  exact h
theorem pt_Msg11 (x : Msg) : AV.part 23 1 false (encMsg x) = some ((encL 3 encUndo) x.K.Undos) := by
  have h := part_one ([(.int x.Kind), (.int x.From), (.int x.To), ((encL 6 encTxn) x.D.Txns), ((encL 3 encUndo) x.D.Undos), ((encL 2 encDot) x.D.Sealed)] ++ ((x.K.Known.V.l.map AV.int) ++ ([((encL 2 encDot) x.K.Known.More)]))) ((encL 3 encUndo) x.K.Undos) ((x.K.Sealed.V.l.map AV.int) ++ ([((encL 2 encDot) x.K.Sealed.More)])) (off := 23) (by simp [Vec.h, Redo.h])
  simp only [encDots, encVec, encRedo, encTxn, encDelta, encState, encKnow, encUndo, encDot, encRecord, encMsg, List.append_assoc, List.cons_append, List.nil_append, List.append_nil] at h ⊢
  exact h
theorem pt_Msg12 (x : Msg) : AV.part 24 17 true (encMsg x) = some (encDots x.K.Sealed) := by
  have h := part_mid ([(.int x.Kind), (.int x.From), (.int x.To), ((encL 6 encTxn) x.D.Txns), ((encL 3 encUndo) x.D.Undos), ((encL 2 encDot) x.D.Sealed)] ++ ((x.K.Known.V.l.map AV.int) ++ ([((encL 2 encDot) x.K.Known.More), ((encL 3 encUndo) x.K.Undos)]))) ((x.K.Sealed.V.l.map AV.int) ++ ([((encL 2 encDot) x.K.Sealed.More)])) [] (off := 24) (sz := 17) (by simp [Vec.h, Redo.h]) (by simp [Vec.h, Redo.h])
  simp only [encDots, encVec, encRedo, encTxn, encDelta, encState, encKnow, encUndo, encDot, encRecord, encMsg, List.append_assoc, List.cons_append, List.nil_append, List.append_nil] at h ⊢
  exact h
theorem pt_Msg13 (x : Msg) : AV.part 24 16 true (encMsg x) = some (encVec x.K.Sealed.V) := by
  have h := part_mid ([(.int x.Kind), (.int x.From), (.int x.To), ((encL 6 encTxn) x.D.Txns), ((encL 3 encUndo) x.D.Undos), ((encL 2 encDot) x.D.Sealed)] ++ ((x.K.Known.V.l.map AV.int) ++ ([((encL 2 encDot) x.K.Known.More), ((encL 3 encUndo) x.K.Undos)]))) ((x.K.Sealed.V.l.map AV.int)) ([((encL 2 encDot) x.K.Sealed.More)]) (off := 24) (sz := 16) (by simp [Vec.h, Redo.h]) (by simp [Vec.h, Redo.h])
  simp only [encDots, encVec, encRedo, encTxn, encDelta, encState, encKnow, encUndo, encDot, encRecord, encMsg, List.append_assoc, List.cons_append, List.nil_append, List.append_nil] at h ⊢
  exact h
theorem pt_Msg14 (x : Msg) : AV.part 40 1 false (encMsg x) = some ((encL 2 encDot) x.K.Sealed.More) := by
  have h := part_one ([(.int x.Kind), (.int x.From), (.int x.To), ((encL 6 encTxn) x.D.Txns), ((encL 3 encUndo) x.D.Undos), ((encL 2 encDot) x.D.Sealed)] ++ ((x.K.Known.V.l.map AV.int) ++ ([((encL 2 encDot) x.K.Known.More), ((encL 3 encUndo) x.K.Undos)] ++ ((x.K.Sealed.V.l.map AV.int))))) ((encL 2 encDot) x.K.Sealed.More) [] (off := 40) (by simp [Vec.h, Redo.h])
  simp only [encDots, encVec, encRedo, encTxn, encDelta, encState, encKnow, encUndo, encDot, encRecord, encMsg, List.append_assoc, List.cons_append, List.nil_append, List.append_nil] at h ⊢
  exact h
theorem pt_Row0 (x : Row) : AV.part 0 2 true (encRow x) = some (encDot x.D) := rfl
theorem pt_Row1 (x : Row) : AV.part 0 1 false (encRow x) = some (AV.int x.D.R) := rfl
theorem pt_Row2 (x : Row) : AV.part 1 1 false (encRow x) = some (AV.int x.D.N) := rfl
theorem pt_Row3 (x : Row) : AV.part 2 1 false (encRow x) = some (AV.int x.User) := rfl
theorem pt_Row4 (x : Row) : AV.part 3 1 false (encRow x) = some (AV.int x.Time) := rfl
theorem pt_Row5 (x : Row) : AV.part 4 1 false (encRow x) = some (AV.int x.Ops) := rfl
theorem pt_Row6 (x : Row) : AV.part 5 1 false (encRow x) = some (AV.int x.Turns) := rfl
theorem pt_Row7 (x : Row) : AV.part 6 1 false (encRow x) = some (AV.bool x.Counts) := rfl
theorem pt_Row8 (x : Row) : AV.part 7 1 false (encRow x) = some (AV.bool x.Fixed) := rfl
theorem sp_Dot_R (x : Dot) (v : Int) : AV.setPart 0 [AV.int v] (encDot x) = some (encDot { x with R := v }) := rfl
theorem sp_Dot_N (x : Dot) (v : Int) : AV.setPart 1 [AV.int v] (encDot x) = some (encDot { x with N := v }) := rfl
theorem sp_Undo_D (x : Undo) (v : Dot) : AV.setPart 0 (encDot v).cells (encUndo x) = some (encUndo { x with D := v }) := rfl
theorem sp_Undo_N (x : Undo) (v : Int) : AV.setPart 2 [AV.int v] (encUndo x) = some (encUndo { x with N := v }) := rfl
theorem sp_Val_Kind (x : Val) (v : Int) : AV.setPart 0 [AV.int v] (encVal x) = some (encVal { x with Kind := v }) := rfl
theorem sp_Val_N (x : Val) (v : Int) : AV.setPart 1 [AV.int v] (encVal x) = some (encVal { x with N := v }) := rfl
theorem sp_Val_S (x : Val) (v : ByteArray) : AV.setPart 2 [AV.str v] (encVal x) = some (encVal { x with S := v }) := rfl
theorem sp_Ref_D (x : Ref) (v : Dot) : AV.setPart 0 (encDot v).cells (encRef x) = some (encRef { x with D := v }) := rfl
theorem sp_Ref_I (x : Ref) (v : Int) : AV.setPart 2 [AV.int v] (encRef x) = some (encRef { x with I := v }) := rfl
theorem sp_Opn_Kind (x : Opn) (v : Int) : AV.setPart 0 [AV.int v] (encOpn x) = some (encOpn { x with Kind := v }) := rfl
theorem sp_Opn_Path (x : Opn) (v : List ByteArray) : AV.setPart 1 [(encL 1 AV.str) v] (encOpn x) = some (encOpn { x with Path := v }) := rfl
theorem sp_Opn_V (x : Opn) (v : Val) : AV.setPart 2 (encVal v).cells (encOpn x) = some (encOpn { x with V := v }) := rfl
theorem sp_Opn_N (x : Opn) (v : Int) : AV.setPart 5 [AV.int v] (encOpn x) = some (encOpn { x with N := v }) := rfl
theorem sp_Opn_Seen (x : Opn) (v : List Ref) : AV.setPart 6 [(encL 3 encRef) v] (encOpn x) = some (encOpn { x with Seen := v }) := rfl
theorem sp_Txn_D (x : Txn) (v : Dot) : AV.setPart 0 (encDot v).cells (encTxn x) = some (encTxn { x with D := v }) := rfl
theorem sp_Txn_User (x : Txn) (v : Int) : AV.setPart 2 [AV.int v] (encTxn x) = some (encTxn { x with User := v }) := rfl
theorem sp_Txn_Time (x : Txn) (v : Int) : AV.setPart 3 [AV.int v] (encTxn x) = some (encTxn { x with Time := v }) := rfl
theorem sp_Txn_Thin (x : Txn) (v : Bool) : AV.setPart 4 [AV.bool v] (encTxn x) = some (encTxn { x with Thin := v }) := rfl
theorem sp_Txn_Ops (x : Txn) (v : List Opn) : AV.setPart 5 [(encL 7 encOpn) v] (encTxn x) = some (encTxn { x with Ops := v }) := rfl
theorem sp_Dots_V (x : Dots) (v : Vec) : AV.setPart 0 (encVec v).cells (encDots x) = some (encDots { x with V := v }) := by
  have h := set_mid [] ((x.V.l.map AV.int)) ((v.l.map AV.int)) ([((encL 2 encDot) x.More)]) (off := 0) (by simp [Vec.h, Redo.h]) (by simp [Vec.h, Redo.h])
  simp only [AV.cells, encDots, encVec, encRedo, encTxn, encDelta, encState, encKnow, encUndo, encDot, encRecord, encMsg, List.append_assoc, List.cons_append, List.nil_append, List.append_nil] at h ⊢
  exact h
theorem sp_Dots_More (x : Dots) (v : List Dot) : AV.setPart 16 [(encL 2 encDot) v] (encDots x) = some (encDots { x with More := v }) := by
  have h := set_mid ((x.V.l.map AV.int)) ([((encL 2 encDot) x.More)]) [(encL 2 encDot) v] [] (off := 16) (by simp [Vec.h, Redo.h]) (by simp [Vec.h, Redo.h])
  simp only [AV.cells, encDots, encVec, encRedo, encTxn, encDelta, encState, encKnow, encUndo, encDot, encRecord, encMsg, List.append_assoc, List.cons_append, List.nil_append, List.append_nil] at h ⊢
  exact h
theorem sp_State_Txns (x : State) (v : List Txn) : AV.setPart 0 [(encL 6 encTxn) v] (encState x) = some (encState { x with Txns := v }) := by
  have h := set_mid [] ([((encL 6 encTxn) x.Txns)]) [(encL 6 encTxn) v] ([((encL 3 encUndo) x.Undos)] ++ ((x.Known.V.l.map AV.int) ++ ([((encL 2 encDot) x.Known.More)] ++ ((x.Sealed.V.l.map AV.int) ++ ([((encL 2 encDot) x.Sealed.More)] ++ ((x.Redo.l.map (encL 2 encDot)))))))) (off := 0) (by simp [Vec.h, Redo.h]) (by simp [Vec.h, Redo.h])
  simp only [AV.cells, encDots, encVec, encRedo, encTxn, encDelta, encState, encKnow, encUndo, encDot, encRecord, encMsg, List.append_assoc, List.cons_append, List.nil_append, List.append_nil] at h ⊢
  exact h
theorem sp_State_Undos (x : State) (v : List Undo) : AV.setPart 1 [(encL 3 encUndo) v] (encState x) = some (encState { x with Undos := v }) := by
  have h := set_mid ([((encL 6 encTxn) x.Txns)]) ([((encL 3 encUndo) x.Undos)]) [(encL 3 encUndo) v] ((x.Known.V.l.map AV.int) ++ ([((encL 2 encDot) x.Known.More)] ++ ((x.Sealed.V.l.map AV.int) ++ ([((encL 2 encDot) x.Sealed.More)] ++ ((x.Redo.l.map (encL 2 encDot))))))) (off := 1) (by simp [Vec.h, Redo.h]) (by simp [Vec.h, Redo.h])
  simp only [AV.cells, encDots, encVec, encRedo, encTxn, encDelta, encState, encKnow, encUndo, encDot, encRecord, encMsg, List.append_assoc, List.cons_append, List.nil_append, List.append_nil] at h ⊢
  exact h
theorem sp_State_Known (x : State) (v : Dots) : AV.setPart 2 (encDots v).cells (encState x) = some (encState { x with Known := v }) := by
  have h := set_mid ([((encL 6 encTxn) x.Txns), ((encL 3 encUndo) x.Undos)]) ((x.Known.V.l.map AV.int) ++ ([((encL 2 encDot) x.Known.More)])) ((v.V.l.map AV.int) ++ ([((encL 2 encDot) v.More)])) ((x.Sealed.V.l.map AV.int) ++ ([((encL 2 encDot) x.Sealed.More)] ++ ((x.Redo.l.map (encL 2 encDot))))) (off := 2) (by simp [Vec.h, Redo.h]) (by simp [Vec.h, Redo.h])
  simp only [AV.cells, encDots, encVec, encRedo, encTxn, encDelta, encState, encKnow, encUndo, encDot, encRecord, encMsg, List.append_assoc, List.cons_append, List.nil_append, List.append_nil] at h ⊢
  exact h
theorem sp_State_Sealed (x : State) (v : Dots) : AV.setPart 19 (encDots v).cells (encState x) = some (encState { x with Sealed := v }) := by
  have h := set_mid ([((encL 6 encTxn) x.Txns), ((encL 3 encUndo) x.Undos)] ++ ((x.Known.V.l.map AV.int) ++ ([((encL 2 encDot) x.Known.More)]))) ((x.Sealed.V.l.map AV.int) ++ ([((encL 2 encDot) x.Sealed.More)])) ((v.V.l.map AV.int) ++ ([((encL 2 encDot) v.More)])) ((x.Redo.l.map (encL 2 encDot))) (off := 19) (by simp [Vec.h, Redo.h]) (by simp [Vec.h, Redo.h])
  simp only [AV.cells, encDots, encVec, encRedo, encTxn, encDelta, encState, encKnow, encUndo, encDot, encRecord, encMsg, List.append_assoc, List.cons_append, List.nil_append, List.append_nil] at h ⊢
  exact h
theorem sp_State_Redo (x : State) (v : Redo) : AV.setPart 36 (encRedo v).cells (encState x) = some (encState { x with Redo := v }) := by
  have h := set_mid ([((encL 6 encTxn) x.Txns), ((encL 3 encUndo) x.Undos)] ++ ((x.Known.V.l.map AV.int) ++ ([((encL 2 encDot) x.Known.More)] ++ ((x.Sealed.V.l.map AV.int) ++ ([((encL 2 encDot) x.Sealed.More)]))))) ((x.Redo.l.map (encL 2 encDot))) ((v.l.map (encL 2 encDot))) [] (off := 36) (by simp [Vec.h, Redo.h]) (by simp [Vec.h, Redo.h])
  simp only [AV.cells, encDots, encVec, encRedo, encTxn, encDelta, encState, encKnow, encUndo, encDot, encRecord, encMsg, List.append_assoc, List.cons_append, List.nil_append, List.append_nil] at h ⊢
  exact h
theorem sp_Know_Known (x : Know) (v : Dots) : AV.setPart 0 (encDots v).cells (encKnow x) = some (encKnow { x with Known := v }) := by
  have h := set_mid [] ((x.Known.V.l.map AV.int) ++ ([((encL 2 encDot) x.Known.More)])) ((v.V.l.map AV.int) ++ ([((encL 2 encDot) v.More)])) ([((encL 3 encUndo) x.Undos)] ++ ((x.Sealed.V.l.map AV.int) ++ ([((encL 2 encDot) x.Sealed.More)]))) (off := 0) (by simp [Vec.h, Redo.h]) (by simp [Vec.h, Redo.h])
  simp only [AV.cells, encDots, encVec, encRedo, encTxn, encDelta, encState, encKnow, encUndo, encDot, encRecord, encMsg, List.append_assoc, List.cons_append, List.nil_append, List.append_nil] at h ⊢
  exact h
theorem sp_Know_Undos (x : Know) (v : List Undo) : AV.setPart 17 [(encL 3 encUndo) v] (encKnow x) = some (encKnow { x with Undos := v }) := by
  have h := set_mid ((x.Known.V.l.map AV.int) ++ ([((encL 2 encDot) x.Known.More)])) ([((encL 3 encUndo) x.Undos)]) [(encL 3 encUndo) v] ((x.Sealed.V.l.map AV.int) ++ ([((encL 2 encDot) x.Sealed.More)])) (off := 17) (by simp [Vec.h, Redo.h]) (by simp [Vec.h, Redo.h])
  simp only [AV.cells, encDots, encVec, encRedo, encTxn, encDelta, encState, encKnow, encUndo, encDot, encRecord, encMsg, List.append_assoc, List.cons_append, List.nil_append, List.append_nil] at h ⊢
  exact h
theorem sp_Know_Sealed (x : Know) (v : Dots) : AV.setPart 18 (encDots v).cells (encKnow x) = some (encKnow { x with Sealed := v }) := by
  have h := set_mid ((x.Known.V.l.map AV.int) ++ ([((encL 2 encDot) x.Known.More), ((encL 3 encUndo) x.Undos)])) ((x.Sealed.V.l.map AV.int) ++ ([((encL 2 encDot) x.Sealed.More)])) ((v.V.l.map AV.int) ++ ([((encL 2 encDot) v.More)])) [] (off := 18) (by simp [Vec.h, Redo.h]) (by simp [Vec.h, Redo.h])
  simp only [AV.cells, encDots, encVec, encRedo, encTxn, encDelta, encState, encKnow, encUndo, encDot, encRecord, encMsg, List.append_assoc, List.cons_append, List.nil_append, List.append_nil] at h ⊢
  exact h
theorem sp_Delta_Txns (x : Delta) (v : List Txn) : AV.setPart 0 [(encL 6 encTxn) v] (encDelta x) = some (encDelta { x with Txns := v }) := rfl
theorem sp_Delta_Undos (x : Delta) (v : List Undo) : AV.setPart 1 [(encL 3 encUndo) v] (encDelta x) = some (encDelta { x with Undos := v }) := rfl
theorem sp_Delta_Sealed (x : Delta) (v : List Dot) : AV.setPart 2 [(encL 2 encDot) v] (encDelta x) = some (encDelta { x with Sealed := v }) := rfl
theorem sp_Record_Kind (x : Record) (v : Int) : AV.setPart 0 [AV.int v] (encRecord x) = some (encRecord { x with Kind := v }) := by
  have h := set_mid [] ([(.int x.Kind)]) [AV.int v] ([(.int x.T.D.R), (.int x.T.D.N), (.int x.T.User), (.int x.T.Time), (.bool x.T.Thin), ((encL 7 encOpn) x.T.Ops), (.int x.User), (.int x.U.D.R), (.int x.U.D.N), (.int x.U.N), (.int x.Back), ((encL 6 encTxn) x.D.Txns), ((encL 3 encUndo) x.D.Undos), ((encL 2 encDot) x.D.Sealed), ((encL 6 encTxn) x.S.Txns), ((encL 3 encUndo) x.S.Undos)] ++ ((x.S.Known.V.l.map AV.int) ++ ([((encL 2 encDot) x.S.Known.More)] ++ ((x.S.Sealed.V.l.map AV.int) ++ ([((encL 2 encDot) x.S.Sealed.More)] ++ ((x.S.Redo.l.map (encL 2 encDot)))))))) (off := 0) (by simp [Vec.h, Redo.h]) (by simp [Vec.h, Redo.h])
  simp only [AV.cells, encDots, encVec, encRedo, encTxn, encDelta, encState, encKnow, encUndo, encDot, encRecord, encMsg, List.append_assoc, List.cons_append, List.nil_append, List.append_nil] at h ⊢
  exact h
theorem sp_Record_T (x : Record) (v : Txn) : AV.setPart 1 (encTxn v).cells (encRecord x) = some (encRecord { x with T := v }) := by
  have h := set_mid ([(.int x.Kind)]) ([(.int x.T.D.R), (.int x.T.D.N), (.int x.T.User), (.int x.T.Time), (.bool x.T.Thin), ((encL 7 encOpn) x.T.Ops)]) ([(.int v.D.R), (.int v.D.N), (.int v.User), (.int v.Time), (.bool v.Thin), ((encL 7 encOpn) v.Ops)]) ([(.int x.User), (.int x.U.D.R), (.int x.U.D.N), (.int x.U.N), (.int x.Back), ((encL 6 encTxn) x.D.Txns), ((encL 3 encUndo) x.D.Undos), ((encL 2 encDot) x.D.Sealed), ((encL 6 encTxn) x.S.Txns), ((encL 3 encUndo) x.S.Undos)] ++ ((x.S.Known.V.l.map AV.int) ++ ([((encL 2 encDot) x.S.Known.More)] ++ ((x.S.Sealed.V.l.map AV.int) ++ ([((encL 2 encDot) x.S.Sealed.More)] ++ ((x.S.Redo.l.map (encL 2 encDot)))))))) (off := 1) (by simp [Vec.h, Redo.h]) (by simp [Vec.h, Redo.h])
  simp only [AV.cells, encDots, encVec, encRedo, encTxn, encDelta, encState, encKnow, encUndo, encDot, encRecord, encMsg, List.append_assoc, List.cons_append, List.nil_append, List.append_nil] at h ⊢
  exact h
theorem sp_Record_User (x : Record) (v : Int) : AV.setPart 7 [AV.int v] (encRecord x) = some (encRecord { x with User := v }) := by
  have h := set_mid ([(.int x.Kind), (.int x.T.D.R), (.int x.T.D.N), (.int x.T.User), (.int x.T.Time), (.bool x.T.Thin), ((encL 7 encOpn) x.T.Ops)]) ([(.int x.User)]) [AV.int v] ([(.int x.U.D.R), (.int x.U.D.N), (.int x.U.N), (.int x.Back), ((encL 6 encTxn) x.D.Txns), ((encL 3 encUndo) x.D.Undos), ((encL 2 encDot) x.D.Sealed), ((encL 6 encTxn) x.S.Txns), ((encL 3 encUndo) x.S.Undos)] ++ ((x.S.Known.V.l.map AV.int) ++ ([((encL 2 encDot) x.S.Known.More)] ++ ((x.S.Sealed.V.l.map AV.int) ++ ([((encL 2 encDot) x.S.Sealed.More)] ++ ((x.S.Redo.l.map (encL 2 encDot)))))))) (off := 7) (by simp [Vec.h, Redo.h]) (by simp [Vec.h, Redo.h])
  simp only [AV.cells, encDots, encVec, encRedo, encTxn, encDelta, encState, encKnow, encUndo, encDot, encRecord, encMsg, List.append_assoc, List.cons_append, List.nil_append, List.append_nil] at h ⊢
  exact h
theorem sp_Record_U (x : Record) (v : Undo) : AV.setPart 8 (encUndo v).cells (encRecord x) = some (encRecord { x with U := v }) := by
  have h := set_mid ([(.int x.Kind), (.int x.T.D.R), (.int x.T.D.N), (.int x.T.User), (.int x.T.Time), (.bool x.T.Thin), ((encL 7 encOpn) x.T.Ops), (.int x.User)]) ([(.int x.U.D.R), (.int x.U.D.N), (.int x.U.N)]) ([(.int v.D.R), (.int v.D.N), (.int v.N)]) ([(.int x.Back), ((encL 6 encTxn) x.D.Txns), ((encL 3 encUndo) x.D.Undos), ((encL 2 encDot) x.D.Sealed), ((encL 6 encTxn) x.S.Txns), ((encL 3 encUndo) x.S.Undos)] ++ ((x.S.Known.V.l.map AV.int) ++ ([((encL 2 encDot) x.S.Known.More)] ++ ((x.S.Sealed.V.l.map AV.int) ++ ([((encL 2 encDot) x.S.Sealed.More)] ++ ((x.S.Redo.l.map (encL 2 encDot)))))))) (off := 8) (by simp [Vec.h, Redo.h]) (by simp [Vec.h, Redo.h])
  simp only [AV.cells, encDots, encVec, encRedo, encTxn, encDelta, encState, encKnow, encUndo, encDot, encRecord, encMsg, List.append_assoc, List.cons_append, List.nil_append, List.append_nil] at h ⊢
  exact h
theorem sp_Record_Back (x : Record) (v : Int) : AV.setPart 11 [AV.int v] (encRecord x) = some (encRecord { x with Back := v }) := by
  have h := set_mid ([(.int x.Kind), (.int x.T.D.R), (.int x.T.D.N), (.int x.T.User), (.int x.T.Time), (.bool x.T.Thin), ((encL 7 encOpn) x.T.Ops), (.int x.User), (.int x.U.D.R), (.int x.U.D.N), (.int x.U.N)]) ([(.int x.Back)]) [AV.int v] ([((encL 6 encTxn) x.D.Txns), ((encL 3 encUndo) x.D.Undos), ((encL 2 encDot) x.D.Sealed), ((encL 6 encTxn) x.S.Txns), ((encL 3 encUndo) x.S.Undos)] ++ ((x.S.Known.V.l.map AV.int) ++ ([((encL 2 encDot) x.S.Known.More)] ++ ((x.S.Sealed.V.l.map AV.int) ++ ([((encL 2 encDot) x.S.Sealed.More)] ++ ((x.S.Redo.l.map (encL 2 encDot)))))))) (off := 11) (by simp [Vec.h, Redo.h]) (by simp [Vec.h, Redo.h])
  simp only [AV.cells, encDots, encVec, encRedo, encTxn, encDelta, encState, encKnow, encUndo, encDot, encRecord, encMsg, List.append_assoc, List.cons_append, List.nil_append, List.append_nil] at h ⊢
  exact h
theorem sp_Record_D (x : Record) (v : Delta) : AV.setPart 12 (encDelta v).cells (encRecord x) = some (encRecord { x with D := v }) := by
  have h := set_mid ([(.int x.Kind), (.int x.T.D.R), (.int x.T.D.N), (.int x.T.User), (.int x.T.Time), (.bool x.T.Thin), ((encL 7 encOpn) x.T.Ops), (.int x.User), (.int x.U.D.R), (.int x.U.D.N), (.int x.U.N), (.int x.Back)]) ([((encL 6 encTxn) x.D.Txns), ((encL 3 encUndo) x.D.Undos), ((encL 2 encDot) x.D.Sealed)]) ([((encL 6 encTxn) v.Txns), ((encL 3 encUndo) v.Undos), ((encL 2 encDot) v.Sealed)]) ([((encL 6 encTxn) x.S.Txns), ((encL 3 encUndo) x.S.Undos)] ++ ((x.S.Known.V.l.map AV.int) ++ ([((encL 2 encDot) x.S.Known.More)] ++ ((x.S.Sealed.V.l.map AV.int) ++ ([((encL 2 encDot) x.S.Sealed.More)] ++ ((x.S.Redo.l.map (encL 2 encDot)))))))) (off := 12) (by simp [Vec.h, Redo.h]) (by simp [Vec.h, Redo.h])
  simp only [AV.cells, encDots, encVec, encRedo, encTxn, encDelta, encState, encKnow, encUndo, encDot, encRecord, encMsg, List.append_assoc, List.cons_append, List.nil_append, List.append_nil] at h ⊢
  exact h
theorem sp_Record_S (x : Record) (v : State) : AV.setPart 15 (encState v).cells (encRecord x) = some (encRecord { x with S := v }) := by
  have h := set_mid ([(.int x.Kind), (.int x.T.D.R), (.int x.T.D.N), (.int x.T.User), (.int x.T.Time), (.bool x.T.Thin), ((encL 7 encOpn) x.T.Ops), (.int x.User), (.int x.U.D.R), (.int x.U.D.N), (.int x.U.N), (.int x.Back), ((encL 6 encTxn) x.D.Txns), ((encL 3 encUndo) x.D.Undos), ((encL 2 encDot) x.D.Sealed)]) ([((encL 6 encTxn) x.S.Txns), ((encL 3 encUndo) x.S.Undos)] ++ ((x.S.Known.V.l.map AV.int) ++ ([((encL 2 encDot) x.S.Known.More)] ++ ((x.S.Sealed.V.l.map AV.int) ++ ([((encL 2 encDot) x.S.Sealed.More)] ++ ((x.S.Redo.l.map (encL 2 encDot)))))))) ([((encL 6 encTxn) v.Txns), ((encL 3 encUndo) v.Undos)] ++ ((v.Known.V.l.map AV.int) ++ ([((encL 2 encDot) v.Known.More)] ++ ((v.Sealed.V.l.map AV.int) ++ ([((encL 2 encDot) v.Sealed.More)] ++ ((v.Redo.l.map (encL 2 encDot)))))))) [] (off := 15) (by simp [Vec.h, Redo.h]) (by simp [Vec.h, Redo.h])
  simp only [AV.cells, encDots, encVec, encRedo, encTxn, encDelta, encState, encKnow, encUndo, encDot, encRecord, encMsg, List.append_assoc, List.cons_append, List.nil_append, List.append_nil] at h ⊢
  exact h
theorem sp_Msg_Kind (x : Msg) (v : Int) : AV.setPart 0 [AV.int v] (encMsg x) = some (encMsg { x with Kind := v }) := by
  have h := set_mid [] ([(.int x.Kind)]) [AV.int v] ([(.int x.From), (.int x.To), ((encL 6 encTxn) x.D.Txns), ((encL 3 encUndo) x.D.Undos), ((encL 2 encDot) x.D.Sealed)] ++ ((x.K.Known.V.l.map AV.int) ++ ([((encL 2 encDot) x.K.Known.More), ((encL 3 encUndo) x.K.Undos)] ++ ((x.K.Sealed.V.l.map AV.int) ++ ([((encL 2 encDot) x.K.Sealed.More)]))))) (off := 0) (by simp [Vec.h, Redo.h]) (by simp [Vec.h, Redo.h])
  simp only [AV.cells, encDots, encVec, encRedo, encTxn, encDelta, encState, encKnow, encUndo, encDot, encRecord, encMsg, List.append_assoc, List.cons_append, List.nil_append, List.append_nil] at h ⊢
  exact h
theorem sp_Msg_From (x : Msg) (v : Int) : AV.setPart 1 [AV.int v] (encMsg x) = some (encMsg { x with From := v }) := by
  have h := set_mid ([(.int x.Kind)]) ([(.int x.From)]) [AV.int v] ([(.int x.To), ((encL 6 encTxn) x.D.Txns), ((encL 3 encUndo) x.D.Undos), ((encL 2 encDot) x.D.Sealed)] ++ ((x.K.Known.V.l.map AV.int) ++ ([((encL 2 encDot) x.K.Known.More), ((encL 3 encUndo) x.K.Undos)] ++ ((x.K.Sealed.V.l.map AV.int) ++ ([((encL 2 encDot) x.K.Sealed.More)]))))) (off := 1) (by simp [Vec.h, Redo.h]) (by simp [Vec.h, Redo.h])
  simp only [AV.cells, encDots, encVec, encRedo, encTxn, encDelta, encState, encKnow, encUndo, encDot, encRecord, encMsg, List.append_assoc, List.cons_append, List.nil_append, List.append_nil] at h ⊢
  exact h
theorem sp_Msg_To (x : Msg) (v : Int) : AV.setPart 2 [AV.int v] (encMsg x) = some (encMsg { x with To := v }) := by
  have h := set_mid ([(.int x.Kind), (.int x.From)]) ([(.int x.To)]) [AV.int v] ([((encL 6 encTxn) x.D.Txns), ((encL 3 encUndo) x.D.Undos), ((encL 2 encDot) x.D.Sealed)] ++ ((x.K.Known.V.l.map AV.int) ++ ([((encL 2 encDot) x.K.Known.More), ((encL 3 encUndo) x.K.Undos)] ++ ((x.K.Sealed.V.l.map AV.int) ++ ([((encL 2 encDot) x.K.Sealed.More)]))))) (off := 2) (by simp [Vec.h, Redo.h]) (by simp [Vec.h, Redo.h])
  simp only [AV.cells, encDots, encVec, encRedo, encTxn, encDelta, encState, encKnow, encUndo, encDot, encRecord, encMsg, List.append_assoc, List.cons_append, List.nil_append, List.append_nil] at h ⊢
  exact h
theorem sp_Msg_D (x : Msg) (v : Delta) : AV.setPart 3 (encDelta v).cells (encMsg x) = some (encMsg { x with D := v }) := by
  have h := set_mid ([(.int x.Kind), (.int x.From), (.int x.To)]) ([((encL 6 encTxn) x.D.Txns), ((encL 3 encUndo) x.D.Undos), ((encL 2 encDot) x.D.Sealed)]) ([((encL 6 encTxn) v.Txns), ((encL 3 encUndo) v.Undos), ((encL 2 encDot) v.Sealed)]) ((x.K.Known.V.l.map AV.int) ++ ([((encL 2 encDot) x.K.Known.More), ((encL 3 encUndo) x.K.Undos)] ++ ((x.K.Sealed.V.l.map AV.int) ++ ([((encL 2 encDot) x.K.Sealed.More)])))) (off := 3) (by simp [Vec.h, Redo.h]) (by simp [Vec.h, Redo.h])
  simp only [AV.cells, encDots, encVec, encRedo, encTxn, encDelta, encState, encKnow, encUndo, encDot, encRecord, encMsg, List.append_assoc, List.cons_append, List.nil_append, List.append_nil] at h ⊢
  exact h
theorem sp_Msg_K (x : Msg) (v : Know) : AV.setPart 6 (encKnow v).cells (encMsg x) = some (encMsg { x with K := v }) := by
  have h := set_mid ([(.int x.Kind), (.int x.From), (.int x.To), ((encL 6 encTxn) x.D.Txns), ((encL 3 encUndo) x.D.Undos), ((encL 2 encDot) x.D.Sealed)]) ((x.K.Known.V.l.map AV.int) ++ ([((encL 2 encDot) x.K.Known.More), ((encL 3 encUndo) x.K.Undos)] ++ ((x.K.Sealed.V.l.map AV.int) ++ ([((encL 2 encDot) x.K.Sealed.More)])))) ((v.Known.V.l.map AV.int) ++ ([((encL 2 encDot) v.Known.More), ((encL 3 encUndo) v.Undos)] ++ ((v.Sealed.V.l.map AV.int) ++ ([((encL 2 encDot) v.Sealed.More)])))) [] (off := 6) (by simp [Vec.h, Redo.h]) (by simp [Vec.h, Redo.h])
  simp only [AV.cells, encDots, encVec, encRedo, encTxn, encDelta, encState, encKnow, encUndo, encDot, encRecord, encMsg, List.append_assoc, List.cons_append, List.nil_append, List.append_nil] at h ⊢
  exact h
theorem sp_Row_D (x : Row) (v : Dot) : AV.setPart 0 (encDot v).cells (encRow x) = some (encRow { x with D := v }) := rfl
theorem sp_Row_User (x : Row) (v : Int) : AV.setPart 2 [AV.int v] (encRow x) = some (encRow { x with User := v }) := rfl
theorem sp_Row_Time (x : Row) (v : Int) : AV.setPart 3 [AV.int v] (encRow x) = some (encRow { x with Time := v }) := rfl
theorem sp_Row_Ops (x : Row) (v : Int) : AV.setPart 4 [AV.int v] (encRow x) = some (encRow { x with Ops := v }) := rfl
theorem sp_Row_Turns (x : Row) (v : Int) : AV.setPart 5 [AV.int v] (encRow x) = some (encRow { x with Turns := v }) := rfl
theorem sp_Row_Counts (x : Row) (v : Bool) : AV.setPart 6 [AV.bool v] (encRow x) = some (encRow { x with Counts := v }) := rfl
theorem sp_Row_Fixed (x : Row) (v : Bool) : AV.setPart 7 [AV.bool v] (encRow x) = some (encRow { x with Fixed := v }) := rfl
theorem sp_Dot (x v : Dot) : AV.setPart 0 (encDot v).cells (encDot x) = some (encDot v) := rfl
theorem sp_Undo (x v : Undo) : AV.setPart 0 (encUndo v).cells (encUndo x) = some (encUndo v) := rfl
theorem sp_Val (x v : Val) : AV.setPart 0 (encVal v).cells (encVal x) = some (encVal v) := rfl
theorem sp_Ref (x v : Ref) : AV.setPart 0 (encRef v).cells (encRef x) = some (encRef v) := rfl
theorem sp_Opn (x v : Opn) : AV.setPart 0 (encOpn v).cells (encOpn x) = some (encOpn v) := rfl
theorem sp_Txn (x v : Txn) : AV.setPart 0 (encTxn v).cells (encTxn x) = some (encTxn v) := rfl
theorem sp_Dots (x v : Dots) : AV.setPart 0 (encDots v).cells (encDots x) = some (encDots v) := by
  have h := set_mid [] ((x.V.l.map AV.int) ++ ([((encL 2 encDot) x.More)])) ((v.V.l.map AV.int) ++ ([((encL 2 encDot) v.More)])) [] (off := 0) rfl (by simp [Vec.h, Redo.h])
  simp only [AV.cells, encDots, encVec, encRedo, encTxn, encDelta, encState, encKnow, encUndo, encDot, encRecord, encMsg, List.append_assoc, List.cons_append, List.nil_append, List.append_nil] at h ⊢
  exact h
theorem sp_State (x v : State) : AV.setPart 0 (encState v).cells (encState x) = some (encState v) := by
  have h := set_mid [] ([((encL 6 encTxn) x.Txns), ((encL 3 encUndo) x.Undos)] ++ ((x.Known.V.l.map AV.int) ++ ([((encL 2 encDot) x.Known.More)] ++ ((x.Sealed.V.l.map AV.int) ++ ([((encL 2 encDot) x.Sealed.More)] ++ ((x.Redo.l.map (encL 2 encDot)))))))) ([((encL 6 encTxn) v.Txns), ((encL 3 encUndo) v.Undos)] ++ ((v.Known.V.l.map AV.int) ++ ([((encL 2 encDot) v.Known.More)] ++ ((v.Sealed.V.l.map AV.int) ++ ([((encL 2 encDot) v.Sealed.More)] ++ ((v.Redo.l.map (encL 2 encDot)))))))) [] (off := 0) rfl (by simp [Vec.h, Redo.h])
  simp only [AV.cells, encDots, encVec, encRedo, encTxn, encDelta, encState, encKnow, encUndo, encDot, encRecord, encMsg, List.append_assoc, List.cons_append, List.nil_append, List.append_nil] at h ⊢
  exact h
theorem sp_Know (x v : Know) : AV.setPart 0 (encKnow v).cells (encKnow x) = some (encKnow v) := by
  have h := set_mid [] ((x.Known.V.l.map AV.int) ++ ([((encL 2 encDot) x.Known.More), ((encL 3 encUndo) x.Undos)] ++ ((x.Sealed.V.l.map AV.int) ++ ([((encL 2 encDot) x.Sealed.More)])))) ((v.Known.V.l.map AV.int) ++ ([((encL 2 encDot) v.Known.More), ((encL 3 encUndo) v.Undos)] ++ ((v.Sealed.V.l.map AV.int) ++ ([((encL 2 encDot) v.Sealed.More)])))) [] (off := 0) rfl (by simp [Vec.h, Redo.h])
  simp only [AV.cells, encDots, encVec, encRedo, encTxn, encDelta, encState, encKnow, encUndo, encDot, encRecord, encMsg, List.append_assoc, List.cons_append, List.nil_append, List.append_nil] at h ⊢
  exact h
theorem sp_Delta (x v : Delta) : AV.setPart 0 (encDelta v).cells (encDelta x) = some (encDelta v) := rfl
theorem sp_Record (x v : Record) : AV.setPart 0 (encRecord v).cells (encRecord x) = some (encRecord v) := by
  have h := set_mid [] ([(.int x.Kind), (.int x.T.D.R), (.int x.T.D.N), (.int x.T.User), (.int x.T.Time), (.bool x.T.Thin), ((encL 7 encOpn) x.T.Ops), (.int x.User), (.int x.U.D.R), (.int x.U.D.N), (.int x.U.N), (.int x.Back), ((encL 6 encTxn) x.D.Txns), ((encL 3 encUndo) x.D.Undos), ((encL 2 encDot) x.D.Sealed), ((encL 6 encTxn) x.S.Txns), ((encL 3 encUndo) x.S.Undos)] ++ ((x.S.Known.V.l.map AV.int) ++ ([((encL 2 encDot) x.S.Known.More)] ++ ((x.S.Sealed.V.l.map AV.int) ++ ([((encL 2 encDot) x.S.Sealed.More)] ++ ((x.S.Redo.l.map (encL 2 encDot)))))))) ([(.int v.Kind), (.int v.T.D.R), (.int v.T.D.N), (.int v.T.User), (.int v.T.Time), (.bool v.T.Thin), ((encL 7 encOpn) v.T.Ops), (.int v.User), (.int v.U.D.R), (.int v.U.D.N), (.int v.U.N), (.int v.Back), ((encL 6 encTxn) v.D.Txns), ((encL 3 encUndo) v.D.Undos), ((encL 2 encDot) v.D.Sealed), ((encL 6 encTxn) v.S.Txns), ((encL 3 encUndo) v.S.Undos)] ++ ((v.S.Known.V.l.map AV.int) ++ ([((encL 2 encDot) v.S.Known.More)] ++ ((v.S.Sealed.V.l.map AV.int) ++ ([((encL 2 encDot) v.S.Sealed.More)] ++ ((v.S.Redo.l.map (encL 2 encDot)))))))) [] (off := 0) rfl (by simp [Vec.h, Redo.h])
  simp only [AV.cells, encDots, encVec, encRedo, encTxn, encDelta, encState, encKnow, encUndo, encDot, encRecord, encMsg, List.append_assoc, List.cons_append, List.nil_append, List.append_nil] at h ⊢
  exact h
theorem sp_Msg (x v : Msg) : AV.setPart 0 (encMsg v).cells (encMsg x) = some (encMsg v) := by
  have h := set_mid [] ([(.int x.Kind), (.int x.From), (.int x.To), ((encL 6 encTxn) x.D.Txns), ((encL 3 encUndo) x.D.Undos), ((encL 2 encDot) x.D.Sealed)] ++ ((x.K.Known.V.l.map AV.int) ++ ([((encL 2 encDot) x.K.Known.More), ((encL 3 encUndo) x.K.Undos)] ++ ((x.K.Sealed.V.l.map AV.int) ++ ([((encL 2 encDot) x.K.Sealed.More)]))))) ([(.int v.Kind), (.int v.From), (.int v.To), ((encL 6 encTxn) v.D.Txns), ((encL 3 encUndo) v.D.Undos), ((encL 2 encDot) v.D.Sealed)] ++ ((v.K.Known.V.l.map AV.int) ++ ([((encL 2 encDot) v.K.Known.More), ((encL 3 encUndo) v.K.Undos)] ++ ((v.K.Sealed.V.l.map AV.int) ++ ([((encL 2 encDot) v.K.Sealed.More)]))))) [] (off := 0) rfl (by simp [Vec.h, Redo.h])
  simp only [AV.cells, encDots, encVec, encRedo, encTxn, encDelta, encState, encKnow, encUndo, encDot, encRecord, encMsg, List.append_assoc, List.cons_append, List.nil_append, List.append_nil] at h ⊢
  exact h
theorem sp_Row (x v : Row) : AV.setPart 0 (encRow v).cells (encRow x) = some (encRow v) := rfl
theorem eq_Dot (x y : Dot) : eqAgg [.int .i64, .int .i64] (encDot x) (encDot y) = some (decide (x = y)) := by
  simp only [eqAgg, eqLs, eqLeaf, encDot, encDot, and_self, if_true, Option.bind_some, Option.map_some, Option.some.injEq]
  rw [Bool.eq_iff_iff]
  simp [Dot.ext_iff, Dot.ext_iff, and_assoc, ba_beq]
theorem eq_Undo (x y : Undo) : eqAgg [.int .i64, .int .i64, .int .i64] (encUndo x) (encUndo y) = some (decide (x = y)) := by
  simp only [eqAgg, eqLs, eqLeaf, encUndo, encDot, and_self, if_true, Option.bind_some, Option.map_some, Option.some.injEq]
  rw [Bool.eq_iff_iff]
  simp [Undo.ext_iff, Dot.ext_iff, and_assoc, ba_beq]
theorem eq_Val (x y : Val) : eqAgg [.int .i64, .int .i64, .str] (encVal x) (encVal y) = some (decide (x = y)) := by
  simp only [eqAgg, eqLs, eqLeaf, encVal, encDot, and_self, if_true, Option.bind_some, Option.map_some, Option.some.injEq]
  rw [Bool.eq_iff_iff]
  simp [Val.ext_iff, Dot.ext_iff, and_assoc, ba_beq]
theorem eq_Ref (x y : Ref) : eqAgg [.int .i64, .int .i64, .int .i64] (encRef x) (encRef y) = some (decide (x = y)) := by
  simp only [eqAgg, eqLs, eqLeaf, encRef, encDot, and_self, if_true, Option.bind_some, Option.map_some, Option.some.injEq]
  rw [Bool.eq_iff_iff]
  simp [Ref.ext_iff, Dot.ext_iff, and_assoc, ba_beq]
theorem eq_Row (x y : Row) : eqAgg [.int .i64, .int .i64, .int .i64, .int .i64, .int .i64, .int .i64, .bool, .bool] (encRow x) (encRow y) = some (decide (x = y)) := by
  simp only [eqAgg, eqLs, eqLeaf, encRow, encDot, and_self, if_true, Option.bind_some, Option.map_some, Option.some.injEq]
  rw [Bool.eq_iff_iff]
  simp [Row.ext_iff, Dot.ext_iff, and_assoc, ba_beq]

end Go.Av

