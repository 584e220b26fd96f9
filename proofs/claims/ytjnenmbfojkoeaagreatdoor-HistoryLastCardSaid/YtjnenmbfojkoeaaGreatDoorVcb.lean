/- Part 2 of the proof: own lemmas, of no statement. -/
import Derived.Test.YtjnenmbfojkoeaaGreatDoorVca
set_option linter.unusedSimpArgs false
set_option linter.unusedVariables false
set_option linter.defProp false
namespace Go.Av

section
variable {B : List Nat} {n : Nat} {F K : Nat → Prop} {μ : Nat → Option Spot} {β : Nat → Nat} {U : Nat → Prop} {env : Env} {σ : Heap} {a : Act} {w : World} {P : Program}

theorem s_len {o : Oper} {x : Operand} {t e : TypeId} {X : Opd} {r : AV} (ho : o.op = .call { callee := .builtin .len, args := #[x], argTypes := #[t] })
    (hu : P.underlying t = some (.slice e)) (hx : opd B x = some X) (hr : Rel B n F K μ β U env σ a w)
    (hv : (lenA (X.ev env)).map AV.int = some r) : Does P U env β F μ w a o r := by
  simp only [Option.map_eq_some_iff] at hv
  obtain ⟨m, hm, rfl⟩ := hv
  obtain ⟨l, p, c, e2, rfl⟩ := lenA_ev hm (opd_ev hx hr)
  exact ⟨.int .i64 l, by simp [execOp, ho, resolve, invoke, builtin, e2, Builtin.len_, run_underlying hu, goInt], .sc _ rfl⟩

theorem s_slen {o : Oper} {x : Operand} {t : TypeId} {X : Opd} {r : AV} (ho : o.op = .call { callee := .builtin .len, args := #[x], argTypes := #[t] })
    (hu : P.underlying t = some .string) (hx : opd B x = some X) (hr : Rel B n F K μ β U env σ a w)
    (hv : (slenA (X.ev env)).map AV.int = some r) : Does P U env β F μ w a o r := by
  simp only [Option.map_eq_some_iff] at hv
  obtain ⟨m, hm, rfl⟩ := hv
  obtain ⟨s, e2, rfl⟩ := slenA_ev hm (opd_ev hx hr)
  exact ⟨.int .i64 s.size, by simp [execOp, ho, resolve, invoke, builtin, e2, Builtin.len_, run_underlying hu, goInt], .sc _ rfl⟩

theorem s_const {o : Oper} {x : Operand} {t e : TypeId} {m : Nat} (ho : o.op = .call { callee := .builtin .len, args := #[x], argTypes := #[t] })
    (hu : P.underlying t = some (.array m e)) : Does P U env β F μ w a o (.int m) := by
  refine ⟨.int .i64 m, ?_, .sc _ rfl⟩
  simp [execOp, ho, resolve, invoke, builtin, Builtin.len_, run_underlying hu, goInt]

theorem run_bnds {len cap : Nat} {lo hi : Option AV} {lv hv : Option Value} {p : Nat × Nat} (h : bndA len lo hi = some p) (hc : len ≤ cap)
    (hl : ∀ x, lo = some x → ∃ v k, lv = some (.int k v) ∧ asI x = some v) (hl0 : lo = none → lv = none)
    (hh : ∀ x, hi = some x → ∃ v k, hv = some (.int k v) ∧ asI x = some v) (hh0 : hi = none → hv = none) (b : Bool) (w : World) :
    (Instr.sliceBounds b len cap lv hv none).run P w = .ok (p.1, p.2, cap) w ∧ p.1 ≤ p.2 ∧ p.2 ≤ len := by
  unfold bndA at h
  simp only [Option.bind_eq_some_iff] at h
  obtain ⟨hq, h1, lq, h2, h3⟩ := h
  split at h3
  · rename_i hcd
    obtain ⟨c1, c2, c3, c4⟩ := hcd
    cases h3
    refine ⟨?_, by simp only; omega, by simp only; omega⟩
    cases hi with
    | none =>
      simp at h1; subst h1
      cases lo with
      | none =>
        simp at h2; subst h2
        simp [Instr.sliceBounds, hl0 rfl, hh0 rfl]
      | some l =>
        obtain ⟨v, k, e1, e2⟩ := hl l rfl
        simp [e2] at h2; subst h2
        simp [Instr.sliceBounds, e1, hh0 rfl, Instr.sliceBound, asIntOf, c3, c4]
    | some hx =>
      obtain ⟨u, j, f1, f2⟩ := hh hx rfl
      simp [f2] at h1; subst h1
      have hcu : u ≤ (cap : Int) := by omega
      cases lo with
      | none =>
        simp at h2; subst h2
        simp [Instr.sliceBounds, f1, hl0 rfl, Instr.sliceBound, asIntOf, c1, hcu]
      | some l =>
        obtain ⟨v, k, e1, e2⟩ := hl l rfl
        simp [e2] at h2; subst h2
        have hmx : ¬ (max u 0 < v) := by omega
        simp [Instr.sliceBounds, e1, f1, Instr.sliceBound, asIntOf, c1, c3, hcu, hmx]
  · cases h3

theorem opd_bnd {x : Option Operand} {X : Option Opd} (h : opdO B x = some X) (hr : Rel B n F K μ β U env σ a w) :
    (∀ y, X.map (·.ev env) = some y → ∀ v, asI y = some v → ∃ k, x.map a.eval = some (.int k v)) ∧ (X = none → x = none) := by
  cases x with
  | none => simp [opdO] at h; subst h; exact ⟨fun y hy => by simp at hy, fun _ => rfl⟩
  | some l =>
    simp only [opdO, Option.map_eq_some_iff] at h
    obtain ⟨L, hL, rfl⟩ := h
    refine ⟨fun y hy v hv => ?_, fun h => by cases h⟩
    simp at hy; subst hy
    obtain ⟨k, hk⟩ := asI_ev hv (opd_ev hL hr)
    exact ⟨k, by simp [hk]⟩

theorem bndA_ints {len : Nat} {lo hi : Option AV} {p : Nat × Nat} (h : bndA len lo hi = some p) : (∀ x, lo = some x → ∃ v, asI x = some v) ∧ (∀ x, hi = some x → ∃ v, asI x = some v) := by
  unfold bndA at h
  simp only [Option.bind_eq_some_iff] at h
  obtain ⟨hq, h1, lq, h2, h3⟩ := h
  constructor
  · intro x hx; subst hx; exact ⟨_, h2⟩
  · intro x hx; subst hx; exact ⟨_, h1⟩

/-- The bounds' operands, as run_bnds wants them. -/
theorem bnd_ops {x : Option Operand} {X : Option Opd} (h : opdO B x = some X) (hr : Rel B n F K μ β U env σ a w)
    (hi : ∀ y, X.map (·.ev env) = some y → ∃ v, asI y = some v) :
    (∀ y, X.map (·.ev env) = some y → ∃ v k, x.map a.eval = some (.int k v) ∧ asI y = some v) ∧ (X.map (·.ev env) = none → x.map a.eval = none) := by
  obtain ⟨h1, h2⟩ := opd_bnd h hr
  refine ⟨fun y hy => ?_, fun hn => ?_⟩
  · obtain ⟨v, hv⟩ := hi y hy
    obtain ⟨k, hk⟩ := h1 y hy v hv
    exact ⟨v, k, hk, hv⟩
  · cases X with
    | none => rw [h2 rfl]; rfl
    | some X => simp at hn

theorem s_slc {o : Oper} {t e : TypeId} {x : Operand} {lo hi : Option Operand} {X : Opd} {L H : Option Opd} {r : AV} (ho : o.op = .slice t x lo hi none) (hu : P.underlying t = some (.slice e)) {se : Nat} (hse : tySize P e = some se)
    (hx : opd B x = some X) (hl : opdO B lo = some L) (hh : opdO B hi = some H)
    (hr : Rel B n F K μ β U env σ a w) (hv : slcA se (X.ev env) (L.map (·.ev env)) (H.map (·.ev env)) = some r) : Does P U env β F μ w a o r := by
  have h1 := opd_ev hx hr
  generalize hxv : a.eval x = xv at h1
  have hrun : ∀ (p : Option Addr) (len cap : Nat) (q : Nat × Nat), xv = .slice p len cap → len ≤ cap → bndA len (L.map (·.ev env)) (H.map (·.ev env)) = some q →
      (execOp a.eval o).run P w = .ok (.value (.slice (if cap = q.1 then p else p.map (·.add (q.1 * se))) (q.2 - q.1) (cap - q.1))) w ∧ q.1 ≤ q.2 ∧ q.2 ≤ len := by
    intro p len cap q hp hc hb
    obtain ⟨i1, i2⟩ := bndA_ints hb
    obtain ⟨b1, b2⟩ := bnd_ops hl hr i1
    obtain ⟨c1, c2⟩ := bnd_ops hh hr i2
    obtain ⟨hbr, hle, hle2⟩ := run_bnds (P := P) hb hc b1 b2 c1 c2 true w
    refine ⟨?_, hle, hle2⟩
    simp [execOp, ho, hxv, hp, Instr.sliceAt, run_underlying hu, Instr.slice, hbr, run_size hse]
  unfold slcA at hv
  split at hv
  · rename_i sz es e1
    rw [e1] at h1
    split at hv
    · rename_i hsz
      subst hsz
      simp only [Option.map_eq_some_iff] at hv
      obtain ⟨q, hq, rfl⟩ := hv
      cases h1 with
      | lstE _ p cap =>
        obtain ⟨hrn, hle, hle2⟩ := hrun p 0 cap q rfl (Nat.zero_le _) hq
        have : q.2 - q.1 = 0 := by omega
        rw [this] at hrn ⊢
        exact ⟨_, hrn, by rw [List.take_zero]; exact .lstE _ _ _⟩
      | lst _ _ k o' cap vs hF hc hfl hs hcell hall =>
        obtain ⟨hrn, hle, hle2⟩ := hrun _ _ cap q rfl hc hq
        refine ⟨_, hrn, ?_⟩
        by_cases h0 : q.2 - q.1 = 0
        · rw [h0, List.take_zero]; exact .lstE _ _ _
        · have hlen : ((es.drop q.1).take (q.2 - q.1)).length = q.2 - q.1 := by simp; omega
          rw [if_neg (by omega)]
          simp only [Option.map_some, Addr.add_none]
          have := RV.lst (F := F) (μ := μ) (w := w) sz ((es.drop q.1).take (q.2 - q.1)) k (o' + q.1 * sz) (cap - q.1) (fun i => vs (q.1 + i)) hF (by rw [hlen]; omega)
            (fun e he => hfl e (List.mem_of_mem_drop (List.mem_of_mem_take he)))
            (fun i hi => hs _ (by rw [hlen] at hi; omega)) (fun i j c hi hj => by
              rw [hlen] at hi
              have := hcell (q.1 + i) j c (by omega) hj
              rw [Nat.add_mul] at this
              rw [← this]; congr 2; omega) (fun i hi => by
              rw [hlen] at hi
              simp only [List.getElem_take, List.getElem_drop]
              exact hall _ (by omega))
          rw [hlen] at this
          exact this
    · cases hv
  · rename_i e1
    rw [e1] at h1
    simp only [Option.map_eq_some_iff] at hv
    obtain ⟨q, hq, rfl⟩ := hv
    cases h1 with
    | nils p =>
      obtain ⟨hrn, hle, hle2⟩ := hrun p 0 0 q rfl (Nat.zero_le _) hq
      have : q.2 - q.1 = 0 := by omega
      rw [this, Nat.zero_sub] at hrn
      exact ⟨_, hrn, .nils _⟩
  · rename_i sz b o' m e1
    rw [e1] at h1
    split at hv
    · rename_i hsz
      subst hsz
      simp only [Option.map_eq_some_iff] at hv
      obtain ⟨q, hq, rfl⟩ := hv
      cases h1 with
      | rowE _ _ _ p =>
        obtain ⟨hrn, hle, hle2⟩ := hrun p 0 0 q rfl (Nat.zero_le _) hq
        have : q.2 - q.1 = 0 := by omega
        rw [this, Nat.zero_sub] at hrn
        exact ⟨_, hrn, by rw [this]; exact .rowE _ _ _ _⟩
      | row _ _ _ _ cap sp hμ hsp hn hc =>
        obtain ⟨hrn, hle, hle2⟩ := hrun _ _ cap q rfl hn hq
        refine ⟨_, hrn, ?_⟩
        by_cases h0 : cap = q.1
        · have h00 : q.2 - q.1 = 0 := by omega
          rw [h00, h0, Nat.sub_self]; exact .rowE _ _ _ _
        · rw [if_neg h0]
          simp only [Option.map_some, Addr.add_none]
          have := RV.row (F := F) (μ := μ) (w := w) sz b (o' + q.1) (q.2 - q.1) (cap - q.1) sp hμ hsp (by omega) (by omega)
          rw [Nat.add_mul, hsp] at this
          rw [hsp]
          exact this
    · cases hv
  · cases hv

theorem s_slc0 {o : Oper} {t e : TypeId} {x h m : Operand} {X H M : Opd} {r : AV} (ho : o.op = .slice t x none (some h) (some m)) (hu : P.underlying t = some (.slice e)) {se : Nat} (hse : tySize P e = some se)
    (hx : opd B x = some X) (hh : opd B h = some H) (hm : opd B m = some M) (hr : Rel B n F K μ β U env σ a w) (hv : slc0A (H.ev env) (M.ev env) (X.ev env) = some r) : Does P U env β F μ w a o r := by
  have h1 := opd_ev hx hr
  generalize hxv : a.eval x = xv at h1
  have key : ∀ (p : Option Addr) (len cap : Nat), xv = .slice p len cap → ((asI (H.ev env)).bind fun h => (asI (M.ev env)).bind fun m => if h = 0 ∧ m = 0 then some AV.nils else none) = some r → Does P U env β F μ w a o r := by
    intro p len cap hp h2
    simp only [Option.bind_eq_some_iff] at h2
    obtain ⟨hv', h3, mv', h4, h5⟩ := h2
    split at h5
    · rename_i hc
      obtain ⟨rfl, rfl⟩ := hc
      cases h5
      obtain ⟨k1, e1⟩ := asI_ev h3 (opd_ev hh hr)
      obtain ⟨k2, e2⟩ := asI_ev h4 (opd_ev hm hr)
      exact ⟨.slice p 0 0, by simp [execOp, ho, hxv, hp, e1, e2, Instr.sliceAt, run_underlying hu, Instr.slice, Instr.sliceBounds, Instr.sliceBound, asIntOf, run_size hse], .nils _⟩
    · cases h5
  unfold slc0A at hv
  split at hv
  · rename_i e1; rw [e1] at h1
    cases h1 with
    | lstE => exact key _ _ _ rfl hv
    | lst => exact key _ _ _ rfl hv
  · rename_i e1; rw [e1] at h1
    cases h1; exact key _ _ _ rfl hv
  · rename_i e1; rw [e1] at h1
    cases h1 with
    | rowE => exact key _ _ _ rfl hv
    | row => exact key _ _ _ rfl hv
  · cases hv

theorem s_sslc {o : Oper} {t : TypeId} {x : Operand} {lo hi : Option Operand} {X : Opd} {L H : Option Opd} {r : AV} (ho : o.op = .slice t x lo hi none) (hu : P.underlying t = some .string)
    (hx : opd B x = some X) (hl : opdO B lo = some L) (hh : opdO B hi = some H)
    (hr : Rel B n F K μ β U env σ a w) (hv : sslcA (L.map (·.ev env)) (H.map (·.ev env)) (X.ev env) = some r) : Does P U env β F μ w a o r := by
  have h1 := opd_ev hx hr
  generalize hxv : a.eval x = xv at h1
  unfold sslcA at hv
  split at hv
  · rename_i s e1
    rw [e1] at h1
    simp only [Option.map_eq_some_iff] at hv
    obtain ⟨q, hq, rfl⟩ := hv
    cases h1
    obtain ⟨i1, i2⟩ := bndA_ints hq
    obtain ⟨b1, b2⟩ := bnd_ops hl hr i1
    obtain ⟨c1, c2⟩ := bnd_ops hh hr i2
    obtain ⟨hbr, hle, hle2⟩ := run_bnds (P := P) hq (Nat.le_refl _) b1 b2 c1 c2 false w
    exact ⟨_, by simp [execOp, ho, hxv, Instr.sliceAt, run_underlying hu, Instr.slice, hbr], .sc _ rfl⟩
  · cases hv

theorem s_mkf {o : Oper} {f : FuncId} {caps : List Operand} {C : List Opd} {r : AV} (ho : o.op = .makeFunc (.func f) #[] caps.toArray) (hc : caps.mapM (opd B) = some C)
    (hr : Rel B n F K μ β U env σ a w) (hv : (if (C.map (·.ev env)).all AV.one then some (AV.clo f (C.map (·.ev env))) else none) = some r) : Does P U env β F μ w a o r := by
  split at hv
  case isFalse => cases hv
  rename_i hall
  cases hv
  have hok : ∀ c ∈ C, (c.ev env).one = true := by simpa using hall
  obtain ⟨h1, h2⟩ := opds_ev hc hr
  refine ⟨.func (.func f) #[] (caps.map a.eval).toArray, by simp [execOp, ho, Instr.makeFunc], ?_⟩
  refine RV.clo f _ _ (by simp [h1]) (fun i hi hj => ?_)
  simp only [List.getElem_map]
  simp only [List.length_map] at hi hj
  exact (h2 i hj hi).of_flat (AV.one_flat (hok _ (List.getElem_mem _)))

theorem s_nilc {o : Oper} {x : Operand} {X : Opd} {r : AV} (ho : o.op = .nilCheck x) (hx : opd B x = some X) (hr : Rel B n F K μ β U env σ a w)
    (hv : nilcA (X.ev env) = some r) : Does P U env β F μ w a o r := by
  have h1 := opd_ev hx hr
  generalize hxv : a.eval x = xv at h1
  unfold nilcA at hv
  split at hv
  · rename_i e1; rw [e1] at h1; cases hv
    cases h1 with
    | ipt _ _ k o' v hF hc h => exact ⟨_, by simp [execOp, ho, hxv], .ipt _ _ k o' v hF hc h⟩
  · rename_i e1; rw [e1] at h1; cases hv
    cases h1 with
    | ptr _ _ _ sp h => exact ⟨_, by simp [execOp, ho, hxv], .ptr _ _ _ sp h⟩
  · rename_i e1; rw [e1] at h1; cases hv
    cases h1 with
    | clo _ _ vs hl h => exact ⟨_, by simp [execOp, ho, hxv], .clo _ _ vs hl h⟩
  · cases hv

theorem addA_ev {x r : AV} {v : Value} {m : Nat} (h : addA m x = some r) (hv : EVo U env β F μ w x v) :
    ∃ k o, v = .pointer (some ⟨k, o, none⟩) ∧ EVo U env β F μ w r (.pointer (some ⟨k, o + m, none⟩)) := by
  unfold addA at h
  split at h <;> simp at h <;> subst h
  · rename_i off
    cases hv with
    | ipt _ _ k o' u hF hc hh => exact ⟨k, o' + off, rfl, by rw [Nat.add_assoc]; exact .ipt _ _ k o' u hF hc hh⟩
  · cases hv with
    | ptr _ _ _ sp hh => exact ⟨sp.k, _, rfl, by rw [Nat.add_assoc]; exact .ptr _ _ _ sp hh⟩

theorem boxOf_some {st : Nat} {b e : AV} (h : boxOf st b = some e) : b = .box st e := by
  unfold boxOf at h
  split at h
  · split at h
    · rename_i hs; subst hs; cases h; rfl
    · cases h
  · cases h

theorem addB_ev {x r : AV} {v : Value} {m t : Nat} (h : addB t (env t) m x = some r) (hv : EVo U env β F μ w x v) :
    ∃ k o, v = .pointer (some ⟨k, o, none⟩) ∧ EVo U env β F μ w r (.pointer (some ⟨k, o + m, none⟩)) := by
  unfold addB at h
  split at h
  · rename_i t' st off
    split at h
    · rename_i ht
      subst ht
      simp only [Option.map_eq_some_iff] at h
      obtain ⟨e, he, rfl⟩ := h
      have hp := hv.2 e (boxOf_some he)
      exact ⟨β t', off, hp, hv.1, fun _ _ => rfl⟩
    · cases h
  · cases h

theorem s_faddr {o : Oper} {t : TypeId} {p : Operand} {i : Nat} {fs : Array Field} {f : Field} {sz : Nat} {X : Opd} {r : AV} {root : Option Nat} (ho : o.op = .fieldAddr t p i) (hu : P.underlying t = some (.struct fs)) (hf : fs[i]? = some f)
    (hs : tySize P f.type = some sz) (hs0 : sz ≠ 0) (hx : opd B p = some X) (hr : Rel B n F K μ β U env σ a w) {nv : Nat} (hv : evalI env nv σ (.faddr root f.offset X) = some r) : Does P U env β F μ w a o r := by
  have h0 : ∃ k o', a.eval p = .pointer (some ⟨k, o', none⟩) ∧ EVo U env β F μ w r (.pointer (some ⟨k, o' + f.offset, none⟩)) := by
    cases root with
    | none => exact addA_ev hv (opd_ev hx hr)
    | some t => exact addB_ev hv (opd_ev hx hr)
  obtain ⟨k, o', h1, h2⟩ := h0
  refine ⟨_, ?_, h2⟩
  simp [execOp, ho, h1, Instr.fieldAt, run_underlying hu, hf, Instr.sureAddr, fieldPlace, run_size hs, hs0, Addr.add_none]

theorem s_iaddrA {o : Oper} {t e : TypeId} {p i : Operand} {m sz : Nat} {X I : Opd} {r : AV} {root : Option Nat} (ho : o.op = .indexAddr t p i) (hu : P.underlying t = some (.array m e))
    (hs : tySize P e = some sz) (hx : opd B p = some X) (hi : opd B i = some I) (hr : Rel B n F K μ β U env σ a w) {nv : Nat}
    (hv : evalI env nv σ (.iaddrA root m sz X I) = some r) : Does P U env β F μ w a o r := by
  have h0 : ∃ j k o', asI (I.ev env) = some j ∧ (0 ≤ j ∧ j < m) ∧ a.eval p = .pointer (some ⟨k, o', none⟩) ∧ EVo U env β F μ w r (.pointer (some ⟨k, o' + j.toNat * sz, none⟩)) := by
    cases root with
    | none =>
      simp only [evalI, Option.bind_eq_some_iff] at hv
      obtain ⟨j, hj, hv⟩ := hv
      split at hv
      · rename_i hc
        obtain ⟨k, o', h1, h2⟩ := addA_ev hv (opd_ev hx hr)
        exact ⟨j, k, o', hj, hc, h1, h2⟩
      · cases hv
    | some t =>
      simp only [evalI, Option.bind_eq_some_iff] at hv
      obtain ⟨j, hj, hv⟩ := hv
      split at hv
      · rename_i hc
        obtain ⟨k, o', h1, h2⟩ := addB_ev hv (opd_ev hx hr)
        exact ⟨j, k, o', hj, hc, h1, h2⟩
      · cases hv
  obtain ⟨j, k, o', hj, hc, h1, h2⟩ := h0
  obtain ⟨kk, hk⟩ := asI_ev hj (opd_ev hi hr)
  refine ⟨_, ?_, h2⟩
  simp [execOp, ho, h1, hk, Instr.indexAt, run_underlying hu, asIntOf, Instr.sureAddr, hc, run_size hs, Addr.add_none]

theorem s_iaddrS {o : Oper} {t e : TypeId} {p i : Operand} {sz : Nat} {X I : Opd} {r : AV} (ho : o.op = .indexAddr t p i) (hu : P.underlying t = some (.slice e))
    (hs : tySize P e = some sz) (hx : opd B p = some X) (hi : opd B i = some I) (hr : Rel B n F K μ β U env σ a w)
    (hv : ((asI (I.ev env)).bind fun i => iaddrSA sz i (X.ev env)) = some r) : Does P U env β F μ w a o r := by
  simp only [Option.bind_eq_some_iff] at hv
  obtain ⟨j, hj, hv⟩ := hv
  obtain ⟨kk, hk⟩ := asI_ev hj (opd_ev hi hr)
  have h1 := opd_ev hx hr
  generalize hxv : a.eval p = xv at h1
  unfold iaddrSA at hv
  split at hv
  · rename_i sz' es e1
    rw [e1] at h1
    split at hv
    · rename_i hc
      obtain ⟨c1, c2, rfl⟩ := hc
      simp only [Option.map_eq_some_iff] at hv
      obtain ⟨el, hel, rfl⟩ := hv
      obtain ⟨hlt, rfl⟩ := List.getElem?_eq_some_iff.1 hel
      cases h1 with
      | lstE => simp at hlt
      | lst _ _ k o' cap vs hF hcap hfl hsz hcell hall =>
        refine ⟨.pointer (some ⟨k, o' + j.toNat * sz', none⟩), ?_, ?_⟩
        · simp [execOp, ho, hxv, hk, Instr.indexAt, run_underlying hu, asIntOf, c1, c2, run_size hs, Addr.add_none]
        · have := RV.ipt (F := F) (μ := μ) (w := w) es[j.toNat] 0 k (o' + j.toNat * sz') (vs j.toNat) hF (fun q c hq => by rw [Nat.add_assoc]; exact hcell j.toNat q c hlt hq) (hall _ hlt)
          rw [Nat.add_zero] at this
          exact this
    · cases hv
  · rename_i sz' b lo m e1
    rw [e1] at h1
    split at hv
    · rename_i hc
      obtain ⟨c1, c2, rfl⟩ := hc
      cases hv
      cases h1 with
      | rowE => simp at c2; omega
      | row _ _ _ _ cap sp hμ hsp hn hcp =>
        refine ⟨.pointer (some ⟨sp.k, lo * sp.sz + j.toNat * sz', none⟩), ?_, ?_⟩
        · simp [execOp, ho, hxv, hk, Instr.indexAt, run_underlying hu, asIntOf, c1, c2, run_size hs, Addr.add_none]
        · have := RV.ptr (F := F) (μ := μ) (w := w) b (lo + j.toNat) 0 sp hμ
          rw [Nat.add_mul, Nat.add_zero] at this
          rw [← hsp]; exact this
    · cases hv
  · cases hv

theorem s_load {o : Oper} {t : TypeId} {p : Operand} {sz : Nat} {ag : Bool} {X : Opd} {r : AV} (ho : o.op = .load t p) (hs : tySize P t = some sz) (ha : tyAgg P t = some ag)
    (hx : opd B p = some X) (hr : Rel B n F K μ β U env σ a w) (hv : loadA σ sz ag (X.ev env) = some r) : Does P U env β F μ w a o r := by
  have h1 := opd_ev hx hr
  generalize hxv : a.eval p = xv at h1
  unfold loadA at hv
  split at hv
  · rename_i e off e1
    rw [e1] at h1
    cases h1 with
    | ipt _ _ k o' v hF hc h =>
      obtain ⟨u, h2, h3, _⟩ := part_rv hv h
      exact ⟨u, by simp [execOp, ho, hxv, Instr.loadAt, Instr.sureAddr, run_loadPart ha hs hc h2], EVo.of_rv h3⟩
  · rename_i b i off e1
    rw [e1] at h1
    simp only [Option.bind_eq_some_iff] at hv
    obtain ⟨row, hrow, e, he, hv⟩ := hv
    unfold rowOf at hrow
    split at hrow
    · rename_i szr es hσ
      cases hrow
      obtain ⟨hlt, rfl⟩ := List.getElem?_eq_some_iff.1 he
      cases h1 with
      | ptr _ _ _ sp hμ =>
        rcases hr.inv.blk b _ hσ with ⟨h0, _⟩ | ⟨sp', arr, et, h1, h2, h3, h4, h5, h6, vs, v1, v2, v3⟩
        · simp only at hlt; rw [h0] at hlt; simp at hlt
        · rw [hμ] at h1; cases h1
          obtain ⟨u, g2, g3, _⟩ := part_rv hv (v3 i hlt).1
          refine ⟨u, ?_, EVo.of_rv g3⟩
          have hc : ∀ j c, (vs i).cells[j]? = some c → w.cell? ⟨sp.k, i * sp.sz + j, none⟩ = some c := by
            intro j c hj
            rw [h4]
            have := v2 i j c hlt hj
            simp [World.cell?, h2, this]
          simp [execOp, ho, hxv, Instr.loadAt, Instr.sureAddr, run_loadPart ha hs hc g2]
    · cases hrow
  · cases hv

theorem s_loadB {o : Oper} {t : TypeId} {p : Operand} {sz root : Nat} {ag : Bool} {X : Opd} {r : AV} (ho : o.op = .load t p) (hs : tySize P t = some sz) (ha : tyAgg P t = some ag)
    (hx : opd B p = some X) (hr : Rel B n F K μ β U env σ a w) (hv : loadB root (env root) sz ag (X.ev env) = some r) : Does P U env β F μ w a o r := by
  have h1 := opd_ev hx hr
  generalize hxv : a.eval p = xv at h1
  unfold loadB at hv
  split at hv
  · rename_i t' st off e1
    rw [e1] at h1
    split at hv
    · rename_i ht
      subst ht
      simp only [Option.bind_eq_some_iff] at hv
      obtain ⟨e, he, hv⟩ := hv
      have hbx := boxOf_some he
      have hp := h1.2 e hbx
      have hval := hr.val t'
      rw [hbx] at hval
      obtain ⟨_, _, _, v, ty, hrv, hheap⟩ := hval
      obtain ⟨u, g2, g3, _⟩ := part_rv hv hrv
      refine ⟨u, ?_, EVo.of_rv g3⟩
      have hc : ∀ j c, v.cells[j]? = some c → w.cell? ⟨β t', 0 + j, none⟩ = some c := by
        intro j c hj
        simp [World.cell?, hheap, hj]
      have := run_loadPart (P := P) ha hs hc g2
      rw [Nat.zero_add] at this
      simp [execOp, ho, hxv, hp, Instr.loadAt, Instr.sureAddr, this]
    · cases hv
  · cases hv

end
end Go.Av

namespace Go.Av

section
variable {B : List Nat} {n : Nat} {F K : Nat → Prop} {μ : Nat → Option Spot} {β : Nat → Nat} {U : Nat → Prop} {env : Env} {σ : Heap} {a : Act} {w : World} {P : Program}

/-- Cells that stand for cells. -/
def CL (F : Nat → Prop) (μ : Nat → Option Spot) (w : World) (zs : List AV) (vs : List Value) : Prop :=
  vs.length = zs.length ∧ ∀ (i : Nat) (z : AV) (v : Value), zs[i]? = some z → vs[i]? = some v → RV F μ w z v ∧ z.one = true

theorem CL.agg {zs : List AV} {vs : List Value} (h : CL F μ w zs vs) : RV F μ w (.agg zs) (.agg vs.toArray) :=
  .agg zs vs h.1 (fun i hi => (h.2 i zs[i] (vs[i]'(by have := h.1; omega)) (List.getElem?_eq_getElem hi) (List.getElem?_eq_getElem (by have := h.1; omega))).2)
    (fun i hi hj => (h.2 i zs[i] vs[i] (List.getElem?_eq_getElem hi) (List.getElem?_eq_getElem hj)).1)

theorem CL.of_rv {x : AV} {v : Value} (h : RV F μ w x v) (hf : x.flat = true) : CL F μ w x.cells v.cells.toList := by
  obtain ⟨h1, h2⟩ := h.cells hf
  refine ⟨by simpa using h1, fun i z u hz hu => ?_⟩
  obtain ⟨hi, rfl⟩ := List.getElem?_eq_some_iff.1 hz
  rw [Array.getElem?_toList] at hu
  obtain ⟨hj, rfl⟩ := Array.getElem?_eq_some_iff.1 hu
  exact ⟨(h2 i hi hj).1, (h2 i hi hj).2.2⟩

theorem CL.over {zs ns : List AV} {vs us : List Value} {off : Nat} (h : CL F μ w zs vs) (h' : CL F μ w ns us) (hle : off + ns.length ≤ zs.length) : CL F μ w (over zs off ns) (over vs off us) := by
  have hl := h.1
  have hl' := h'.1
  refine ⟨by rw [over_length (by omega), over_length (by omega)]; exact hl, fun i z v hz hv => ?_⟩
  rw [over_get (by omega)] at hz hv
  rw [hl'] at hv
  split at hz
  · rename_i hc
    rw [if_pos hc] at hv
    exact h'.2 _ z v hz hv
  · rename_i hc
    rw [if_neg hc] at hv
    exact h.2 _ z v hz hv

theorem fill_sound (hr : Rel B n F K μ β U env σ a w) (places : Nat → Option (Nat × Nat)) : ∀ (parts : List (Nat × Operand)) (q : List (Nat × Nat × Opd)) (zs cs : List AV) (vs : Array Value),
    compBuild B places parts = some q → CL F μ w zs vs.toList → fillA zs (q.map fun p => (p.1, p.2.1, p.2.2.ev env)) = some cs →
    ∃ us : Array Value, Instr.fill places vs (parts.map fun p => (p.1, a.eval p.2)) = some us ∧ CL F μ w cs us.toList
  | [], q, zs, cs, vs, hq, hz, hf => by
    cases hq
    cases hf
    exact ⟨vs, rfl, hz⟩
  | (i, x) :: parts, q, zs, cs, vs, hq, hz, hf => by
    simp only [compBuild, Option.bind_eq_some_iff, Option.map_eq_some_iff] at hq
    obtain ⟨p, hp, y, hy, q', hq', rfl⟩ := hq
    simp only [List.map_cons, fillA] at hf
    split at hf
    · rename_i hc
      obtain ⟨c1, c2, c3⟩ := hc
      have hv := (opd_ev hy hr).of_flat c1
      have hcl := CL.of_rv hv c1
      have hlen : (a.eval x).cells.size = p.2 := by have := hcl.1; simp at this; omega
      have hzl : vs.size = zs.length := by have := hz.1; simpa using this
      have ho := hz.over hcl (off := p.1) (by rw [c2]; exact c3)
      have hfold := fold_set p.1 (a.eval x).cells.toList 0 vs (by simp; omega)
      rw [Nat.add_zero] at hfold
      have hfold' : (a.eval x).cells.zipIdx.foldl (fun cs (c, j) => cs.setIfInBounds (p.1 + j) c) vs = (over vs.toList p.1 (a.eval x).cells.toList).toArray := by
        rw [← hfold]
        rw [← Array.foldl_toList, Array.toList_zipIdx]
      obtain ⟨us, h1, h2⟩ := fill_sound hr places parts q' (over zs p.1 (y.ev env).cells) cs (over vs.toList p.1 (a.eval x).cells.toList).toArray hq' (by simpa using ho) hf
      refine ⟨us, ?_, h2⟩
      simp only [List.map_cons, Instr.fill, hp]
      rw [if_neg (by simp; omega), hfold']
      exact h1
    · cases hf

theorem tyZero_ok {t : TypeId} {z : AV} (h : tyZero P t = some z) (F : Nat → Prop) (μ : Nat → Option Spot) (w : World) :
    ∃ zv, (zeroValue t).run P w = .ok zv w ∧ RV F μ w z zv ∧ z.flat = true ∧ tySize P t = some z.cells.length ∧ ∃ i, P.info? t = some i ∧ i.zero = some zv ∧ i.size = z.cells.length := by
  unfold tyZero at h
  cases hi : P.info? t with
  | none => simp [hi] at h
  | some i =>
    cases hz : i.zero with
    | none => simp [hi, hz] at h
    | some zv =>
      simp only [hi, hz, Option.bind_eq_some_iff] at h
      obtain ⟨y, hy, h⟩ := h
      split at h
      · rename_i hc
        cases h
        simp only [Bool.and_eq_true, beq_iff_eq] at hc
        exact ⟨zv, by simp [zeroValue, typeInfo, hi, hz], ofV_rv hy, hc.1, by simp [tySize, hi, hc.2], i, rfl, hz, hc.2.symm⟩
      · cases h

theorem s_build {o : Oper} {t : TypeId} {parts : Array (Nat × Operand)} {z : AV} {q : List (Nat × Nat × Opd)} {places : List (Nat × Nat)} {fs : Array Field} {r : AV} (ho : o.op = .build t parts) (hu : P.underlying t = some (.struct fs))
    (hp : structPlaces P fs = some places) (hz : tyZero P t = some z) (hq : compBuild B (places[·]?) parts.toList = some q) (hr : Rel B n F K μ β U env σ a w)
    (hv : (fillA z.cells (q.map fun p => (p.1, p.2.1, p.2.2.ev env))).map .agg = some r) : Does P U env β F μ w a o r := by
  simp only [Option.map_eq_some_iff] at hv
  obtain ⟨cs, hcs, rfl⟩ := hv
  obtain ⟨zv, h1, h2, h3, _, i, hi, hiz, _⟩ := tyZero_ok hz F μ w
  obtain ⟨us, h4, h5⟩ := fill_sound hr _ _ q z.cells cs zv.cells hq (CL.of_rv h2 h3) hcs
  have hb : P.built t ((parts.map fun p => (p.1, a.eval p.2)).toList) = some us := by
    unfold Program.built
    have hp' : fs.toList.mapM (fun f => (P.info? f.type).map fun i => (f.offset, i.size)) = some places := hp
    simp only [hi, hu, hiz, hp']
    rw [← h4]; simp
  refine ⟨.agg us, ?_, ?_⟩
  · have := run_build (P := P) w t _ us hb
    simp only [execOp, ho, Sem.run_bind, this, Result.andThen_ok]
    rfl
  · exact EVo.of_rv (by have := h5.agg; simpa using this)

theorem s_buildA {o : Oper} {t e : TypeId} {parts : Array (Nat × Operand)} {z : AV} {q : List (Nat × Nat × Opd)} {m sz : Nat} {r : AV} (ho : o.op = .build t parts) (hu : P.underlying t = some (.array m e))
    (hs : tySize P e = some sz) (hz : tyZero P t = some z) (hq : compBuild B (fun i => some (i * sz, sz)) parts.toList = some q) (hr : Rel B n F K μ β U env σ a w)
    (hv : (fillA z.cells (q.map fun p => (p.1, p.2.1, p.2.2.ev env))).map .agg = some r) : Does P U env β F μ w a o r := by
  simp only [Option.map_eq_some_iff] at hv
  obtain ⟨cs, hcs, rfl⟩ := hv
  obtain ⟨zv, h1, h2, h3, _, i, hi, hiz, _⟩ := tyZero_ok hz F μ w
  obtain ⟨us, h4, h5⟩ := fill_sound hr _ _ q z.cells cs zv.cells hq (CL.of_rv h2 h3) hcs
  obtain ⟨ie, hie, hie2⟩ : ∃ ie, P.info? e = some ie ∧ ie.size = sz := by
    unfold tySize at hs
    cases hie : P.info? e with
    | none => simp [hie] at hs
    | some ie => exact ⟨ie, rfl, by simpa [hie] using hs⟩
  have hb : P.built t ((parts.map fun p => (p.1, a.eval p.2)).toList) = some us := by
    unfold Program.built
    simp only [hi, hu, hiz, hie, hie2]
    rw [← h4]; simp
  refine ⟨.agg us, ?_, ?_⟩
  · have := run_build (P := P) w t _ us hb
    simp only [execOp, ho, Sem.run_bind, this, Result.andThen_ok]
    rfl
  · exact EVo.of_rv (by have := h5.agg; simpa using this)

theorem i64s_ev : ∀ {xs : List AV} {l : List Int} {vs : List Value}, i64s xs = some l → vs.length = xs.length → (∀ i (hi : i < xs.length) (hj : i < vs.length), EVo U env β F μ w xs[i] vs[i]) →
    vs = l.map fun n => Value.int .i64 n
  | [], l, vs, h, hl, _ => by
    cases h
    have := List.eq_nil_of_length_eq_zero hl
    subst this; rfl
  | x :: xs, l, vs, h, hl, hv => by
    cases vs with
    | nil => simp at hl
    | cons v vs =>
      unfold i64s at h
      split at h
      · rename_i e; cases e
      · rename_i n r e
        cases e
        simp only [Option.map_eq_some_iff] at h
        obtain ⟨l', hl', rfl⟩ := h
        have h0 := hv 0 (by simp) (by simp)
        simp only [List.getElem_cons_zero] at h0
        cases h0
        have := i64s_ev hl' (by simpa using hl) (fun i hi hj => hv (i + 1) (by simp; omega) (by simp; omega))
        rw [this]; rfl
      · cases h

theorem fold_max (k : IntKind) : ∀ (l : List Int) (x : Int), ((l.map fun n => Value.int .i64 n).foldlM Builtin.max2 (.int .i64 x)).run P w = .ok (.int .i64 (maxI x l)) w
  | [], x => rfl
  | y :: l, x => by
    simp only [List.map_cons, List.foldlM_cons, Builtin.max2, pure_bind, maxI]
    exact fold_max k l _

theorem fold_min (k : IntKind) : ∀ (l : List Int) (x : Int), ((l.map fun n => Value.int .i64 n).foldlM Builtin.min2 (.int .i64 x)).run P w = .ok (.int .i64 (minI x l)) w
  | [], x => rfl
  | y :: l, x => by
    simp only [List.map_cons, List.foldlM_cons, Builtin.min2, pure_bind, minI]
    exact fold_min k l _

theorem s_mx {o : Oper} {x : Operand} {ys : List Operand} {X : Opd} {Ys : List Opd} {r : AV} {ts : Array TypeId} (ho : o.op = .call { callee := .builtin .max, args := ⟨x :: ys⟩, argTypes := ts })
    (hx : opd B x = some X) (hy : ys.mapM (opd B) = some Ys) (hr : Rel B n F K μ β U env σ a w) (hv : ((i64s ((X :: Ys).map (·.ev env))).bind (headI maxI)) = some r) : Does P U env β F μ w a o r := by
  simp only [Option.bind_eq_some_iff] at hv
  obtain ⟨l, hl, hv⟩ := hv
  obtain ⟨h1, h2⟩ := opds_ev hy hr
  have := i64s_ev (U := U) (env := env) (β := β) (F := F) (μ := μ) (w := w) (vs := (x :: ys).map a.eval) hl (by simp [h1]) (fun i hi hj => by
    cases i with
    | zero => exact opd_ev hx hr
    | succ i => simp only [List.map_cons, List.getElem_cons_succ, List.getElem_map]; exact h2 i (by simpa using hj) (by simpa using hi))
  cases l with
  | nil => simp at this
  | cons n l =>
    cases hv
    simp only [List.map_cons, List.cons.injEq] at this
    refine ⟨.int .i64 (maxI n l), ?_, .sc _ rfl⟩
    have hf := fold_max (P := P) (w := w) .i64 l n
    simp [execOp, ho, resolve, invoke, builtin, Builtin.max_, this.1, this.2, hf]

theorem s_mn {o : Oper} {x : Operand} {ys : List Operand} {X : Opd} {Ys : List Opd} {r : AV} {ts : Array TypeId} (ho : o.op = .call { callee := .builtin .min, args := ⟨x :: ys⟩, argTypes := ts })
    (hx : opd B x = some X) (hy : ys.mapM (opd B) = some Ys) (hr : Rel B n F K μ β U env σ a w) (hv : ((i64s ((X :: Ys).map (·.ev env))).bind (headI minI)) = some r) : Does P U env β F μ w a o r := by
  simp only [Option.bind_eq_some_iff] at hv
  obtain ⟨l, hl, hv⟩ := hv
  obtain ⟨h1, h2⟩ := opds_ev hy hr
  have := i64s_ev (U := U) (env := env) (β := β) (F := F) (μ := μ) (w := w) (vs := (x :: ys).map a.eval) hl (by simp [h1]) (fun i hi hj => by
    cases i with
    | zero => exact opd_ev hx hr
    | succ i => simp only [List.map_cons, List.getElem_cons_succ, List.getElem_map]; exact h2 i (by simpa using hj) (by simpa using hi))
  cases l with
  | nil => simp at this
  | cons n l =>
    cases hv
    simp only [List.map_cons, List.cons.injEq] at this
    refine ⟨.int .i64 (minI n l), ?_, .sc _ rfl⟩
    have hf := fold_min (P := P) (w := w) .i64 l n
    simp [execOp, ho, resolve, invoke, builtin, Builtin.min_, this.1, this.2, hf]

/-- Operations that leave the world as it is. -/
def IOp.quiet : IOp → Bool
  | .bslice _ _ | .nbox _ _ | .bbox _ _ => false
  | _ => true

theorem opNeg {op : BinOp} (h : (op == .eql || op == .neq) = true) : (op = .eql ∧ (op == .neq) = false) ∨ (op = .neq ∧ (op == .neq) = true) := by
  cases op <;> first | (exact .inl ⟨rfl, rfl⟩) | (exact .inr ⟨rfl, rfl⟩) | (cases h)

theorem evalI_sound {o : Oper} {io : IOp} {ops : Array Oper} {own : List Nat} {q : Bool} {ix : Nat} {nv : Nat} {r : AV} (hc : comp1 P B ops own q ix o = some io) (hr : Rel B n F K μ β U env σ a w)
    (hv : evalI env nv σ io = some r) (hq : io.quiet = true) : Does P U env β F μ w a o r := by
  unfold comp1 at hc
  split at hc <;> rename_i ho
  · simp only [Option.map_eq_some_iff] at hc; obtain ⟨X, hX, rfl⟩ := hc; exact s_mov (.inl ho) hX hr hv
  · simp only [Option.map_eq_some_iff] at hc; obtain ⟨X, hX, rfl⟩ := hc; exact s_mov (.inr ho) hX hr hv
  · simp only [Option.bind_eq_some_iff, Option.map_eq_some_iff] at hc
    obtain ⟨C, hC, X, hX, Y, hY, rfl⟩ := hc
    exact s_pick ho hC hX hY hr hv
  · -- binOp
    split at hc
    · split at hc
      · rename_i hop
        split at hc
        · rename_i e hu
          simp only [Option.map_eq_some_iff] at hc; obtain ⟨X, hX, rfl⟩ := hc
          exact s_isnil ho hu (opNeg hop) hX hr hv
        · cases hc
      · cases hc
    · split at hc
      · rename_i hop
        split at hc
        · rename_i e hu
          simp only [Option.map_eq_some_iff] at hc; obtain ⟨X, hX, rfl⟩ := hc
          exact s_isnilf ho hu (opNeg hop) hX hr hv
        · cases hc
      · cases hc
    · split at hc
      · split at hc
        · simp only [Option.map_eq_some_iff] at hc; obtain ⟨X, hX, rfl⟩ := hc
          cases hv
        · cases hc
      · cases hc
    · simp only [Option.bind_eq_some_iff] at hc
      obtain ⟨X, hX, Y, hY, hc⟩ := hc
      split at hc
      · cases hc; exact s_bin ho hX hY hr hv
      · cases hc; exact s_bin ho hX hY hr hv
      · rename_i hu
        split at hc
        · rename_i hop; cases hc
          exact s_eqb ho hu (.inl ⟨by simpa using hop, rfl⟩) hX hY hr hv
        · split at hc
          · rename_i hop; cases hc
            exact s_eqb ho hu (.inr ⟨by simpa using hop, rfl⟩) hX hY hr hv
          · cases hc
      · rename_i hu
        split at hc
        · rename_i hop
          simp only [Bool.and_eq_true, Bool.not_eq_true'] at hop
          simp only [Option.map_eq_some_iff] at hc
          obtain ⟨ls, hls, rfl⟩ := hc
          exact s_eql ho hop.2 (by simp [tyAgg, hu]) hls (opNeg hop.1) hX hY hr hv
        · cases hc
      · rename_i hu
        split at hc
        · rename_i hop
          simp only [Bool.and_eq_true, Bool.not_eq_true'] at hop
          simp only [Option.map_eq_some_iff] at hc
          obtain ⟨ls, hls, rfl⟩ := hc
          exact s_eql ho hop.2 (by simp [tyAgg, hu]) hls (opNeg hop.1) hX hY hr hv
        · cases hc
      · cases hc
  · -- unOp
    split at hc
    · rename_i op t x hop
      simp only [Option.map_eq_some_iff] at hc; obtain ⟨X, hX, rfl⟩ := hc
      cases op <;> first | (cases hop; done) | exact s_un ho hX hr (.inl ⟨rfl, hv⟩) | exact s_un ho hX hr (.inr ⟨rfl, hv⟩)
    · cases hc
  · -- convert
    split at hc
    · rename_i hs hd
      simp only [Option.map_eq_some_iff] at hc; obtain ⟨X, hX, rfl⟩ := hc
      exact s_cvi ho hs hd hX hr hv
    · rename_i hs hd
      simp only [Option.map_eq_some_iff] at hc; obtain ⟨X, hX, rfl⟩ := hc
      exact s_cvs ho hs hd hX hr hv
    · cases hc
  · -- build
    split at hc
    · rename_i hu
      simp only [Option.bind_eq_some_iff, Option.map_eq_some_iff] at hc
      obtain ⟨ps, hps, z, hz, q', hq', rfl⟩ := hc
      exact s_build ho hu hps hz hq' hr hv
    · rename_i hu
      simp only [Option.bind_eq_some_iff, Option.map_eq_some_iff] at hc
      obtain ⟨sz, hs, z, hz, q', hq', rfl⟩ := hc
      exact s_buildA ho hu hs hz hq' hr hv
    · cases hc
  · -- buildSlice
    split at hc
    · simp only [Option.bind_eq_some_iff] at hc
      obtain ⟨sz, hs, z, hz, els, hels, hc⟩ := hc
      split at hc
      · cases hc
        revert hv hq
        split
        · intro hv; cases hv
        · intro _ hq; cases hq
      · cases hc
    · cases hc
  · -- field
    split at hc
    · rename_i hu
      simp only [Option.bind_eq_some_iff, Option.map_eq_some_iff] at hc
      obtain ⟨f, hf, sz, hs, ag, ha, X, hX, rfl⟩ := hc
      exact s_field ho hu hf hs ha hX hr hv
    · cases hc
  · -- index
    split at hc
    · rename_i hu
      simp only [Option.bind_eq_some_iff, Option.map_eq_some_iff] at hc
      obtain ⟨sz, hs, ag, ha, X, hX, I, hI, rfl⟩ := hc
      exact s_idx ho hu hs ha hX hI hr hv
    · rename_i hu
      simp only [Option.bind_eq_some_iff, Option.map_eq_some_iff] at hc
      obtain ⟨X, hX, I, hI, rfl⟩ := hc
      exact s_sidx ho hu hX hI hr hv
    · cases hc
  · -- extract
    simp only [Option.map_eq_some_iff] at hc; obtain ⟨X, hX, rfl⟩ := hc
    exact s_ext ho hX hr hv
  · -- slice
    split at hc
    · rename_i hu
      simp only [Option.bind_eq_some_iff, Option.map_eq_some_iff] at hc
      obtain ⟨sz, hs, X, hX, L, hL, H, hH, rfl⟩ := hc
      exact s_slc ho hu hs hX hL hH hr hv
    · rename_i hu
      simp only [Option.bind_eq_some_iff, Option.map_eq_some_iff] at hc
      obtain ⟨X, hX, L, hL, H, hH, rfl⟩ := hc
      exact s_sslc ho hu hX hL hH hr hv
    · cases hc
  · -- slice0
    split at hc
    · rename_i hu
      simp only [Option.bind_eq_some_iff, Option.map_eq_some_iff] at hc
      obtain ⟨se, hse, X, hX, H, hH, M, hM, rfl⟩ := hc
      exact s_slc0 ho hu hse hX hH hM hr hv
    · cases hc
  · -- load
    simp only [Option.bind_eq_some_iff, Option.map_eq_some_iff] at hc
    obtain ⟨sz, hs, ag, ha, X, hX, rfl⟩ := hc
    generalize rootOf B ops 20 _ = root at hv
    cases root with
    | none => exact s_load ho hs ha hX hr hv
    | some t => exact s_loadB ho hs ha hX hr hv
  · -- store
    simp only [Option.bind_eq_some_iff] at hc
    obtain ⟨sz, hs, hc⟩ := hc
    split at hc
    · cases hc
    · simp only [Option.bind_eq_some_iff, Option.map_eq_some_iff] at hc
      obtain ⟨X, hX, Y, hY, rfl⟩ := hc
      revert hv
      generalize rootOf B ops 20 _ = root
      cases root <;> intro hv <;> cases hv
  · -- fieldAddr
    split at hc
    · rename_i hu
      simp only [Option.bind_eq_some_iff] at hc
      obtain ⟨f, hf, sz, hs, hc⟩ := hc
      split at hc
      · cases hc
      · rename_i h0
        simp only [Option.map_eq_some_iff] at hc; obtain ⟨X, hX, rfl⟩ := hc
        exact s_faddr ho hu hf hs h0 hX hr hv
    · cases hc
  · -- indexAddr
    split at hc
    · rename_i hu
      simp only [Option.bind_eq_some_iff, Option.map_eq_some_iff] at hc
      obtain ⟨sz, hs, X, hX, I, hI, rfl⟩ := hc
      exact s_iaddrA ho hu hs hX hI hr hv
    · rename_i hu
      simp only [Option.bind_eq_some_iff, Option.map_eq_some_iff] at hc
      obtain ⟨sz, hs, X, hX, I, hI, rfl⟩ := hc
      exact s_iaddrS ho hu hs hX hI hr hv
    · cases hc
  · -- alloc
    simp only [Option.map_eq_some_iff] at hc; obtain ⟨z, hz, rfl⟩ := hc
    revert hv hq
    split
    · split
      · intro _ hq; cases hq
      · intro hv; cases hv
    · intro hv; cases hv
  · -- box
    simp only [Option.map_eq_some_iff] at hc; obtain ⟨z, hz, rfl⟩ := hc
    revert hv hq
    split
    · split
      · intro _ hq; cases hq
      · intro hv; cases hv
    · intro hv; cases hv
  · -- makeFunc
    simp only [Option.map_eq_some_iff] at hc; obtain ⟨C, hC, rfl⟩ := hc
    exact s_mkf ho hC hr hv
  · -- nilCheck
    simp only [Option.map_eq_some_iff] at hc; obtain ⟨X, hX, rfl⟩ := hc
    exact s_nilc ho hX hr hv
  · -- makeSlice
    split at hc
    · simp only [Option.bind_eq_some_iff, Option.map_eq_some_iff] at hc
      obtain ⟨i, hi, z, hz, L, hL, C, hC, rfl⟩ := hc
      cases hv
    · cases hc
  · -- call
    simp only [Option.bind_eq_some_iff, Option.map_eq_some_iff] at hc
    obtain ⟨f, hf, as, has, rfl⟩ := hc
    split at hv <;> cases hv
  · -- len
    split at hc
    · rename_i hu
      simp only [Option.map_eq_some_iff] at hc; obtain ⟨X, hX, rfl⟩ := hc
      exact s_slen ho hu hX hr hv
    · rename_i hu
      simp only [Option.map_eq_some_iff] at hc; obtain ⟨X, hX, rfl⟩ := hc
      exact s_len ho hu hX hr hv
    · rename_i hu
      cases hc
      cases hv
      exact s_const ho hu
    · cases hc
  · -- append
    split at hc
    · split at hc
      · simp only [Option.bind_eq_some_iff] at hc
        obtain ⟨i, hi, z, hz, hc⟩ := hc
        split at hc
        · simp only [Option.bind_eq_some_iff, Option.map_eq_some_iff] at hc
          obtain ⟨X, hX, Y, hY, rfl⟩ := hc
          cases hv
        · cases hc
      · cases hc
    · cases hc
  · -- copy
    split at hc
    · split at hc
      · simp only [Option.bind_eq_some_iff, Option.map_eq_some_iff] at hc
        obtain ⟨i, hi, X, hX, Y, hY, rfl⟩ := hc
        cases hv
      · cases hc
    · cases hc
  · -- clear
    split at hc
    · simp only [Option.bind_eq_some_iff, Option.map_eq_some_iff] at hc
      obtain ⟨i, hi, X, hX, rfl⟩ := hc
      cases hv
    · cases hc
  · -- max
    simp only [Option.bind_eq_some_iff, Option.map_eq_some_iff] at hc
    obtain ⟨X, hX, Y, hY, rfl⟩ := hc
    exact s_mx ho hX hY hr hv
  · -- min
    simp only [Option.bind_eq_some_iff, Option.map_eq_some_iff] at hc
    obtain ⟨X, hX, Y, hY, rfl⟩ := hc
    exact s_mn ho hX hY hr hv
  · cases hc

end
end Go.Av

namespace Go.Av

section
variable {F F' K K' : Nat → Prop} {μ μ' : Nat → Option Spot} {σ : Heap} {w w' : World}

theorem Inv.monoK (h : Inv F K μ σ w) (hk : ∀ k, K' k → K k) : Inv F K' μ σ w :=
  ⟨h.blk, h.inj, fun b sp hb hs => ⟨(h.nof b sp hb hs).1, fun hk' => (h.nof b sp hb hs).2 (hk _ hk')⟩, fun k hk' => h.sep k (hk k hk'), h.bdF, fun k hk' => h.bdK k (hk k hk'), h.fin⟩

/-- A live block lies in memory. -/
theorem Inv.lt (h : Inv F K μ σ w) {b : Nat} {sp : Spot} (hb : σ b ≠ none) (hs : μ b = some sp) : sp.k < w.heap.size := by
  cases ho : σ b with
  | none => exact absurd ho hb
  | some o =>
    have := h.blk b o ho
    cases o with
    | row sz es =>
      rcases this with ⟨_, h0⟩ | ⟨sp', arr, e, h1, h2, _⟩
      · rw [hs] at h0; cases h0
      · rw [hs] at h1; cases h1; exact (Array.getElem?_eq_some_iff.1 h2).1
    | map es =>
      obtain ⟨sp', ents, clock, h1, h2, _⟩ := this
      rw [hs] at h1; cases h1; exact (Array.getElem?_eq_some_iff.1 h2).1
    | glob g cs => exact absurd (hs.symm.trans this.1) (by simp)

theorem alloc_new (w : World) (o : Obj) : (w.alloc o).heap[w.heap.size]? = some o := heap_alloc_new w o
theorem alloc_old (w : World) (o : Obj) {k : Nat} (h : k < w.heap.size) : (w.alloc o).heap[k]? = w.heap[k]? := by
  show (w.heap.push o)[k]? = _
  rw [Array.getElem?_push, if_neg (by omega)]

/-- A new block that never changes. -/
theorem Ext.frz (hF : ∀ k, F k → k < w.heap.size) (hK : ∀ k, K k → k < w.heap.size) (o : Obj) : Ext F K μ w (fun k => F k ∨ k = w.heap.size) μ (w.alloc o) :=
  ⟨rfl, rfl, rfl, fun _ => Nat.le_refl _, by simp, fun _ h => .inl h, fun _ _ h => h, fun k hk => alloc_old w o (hk.elim (hF k) (hK k))⟩

theorem Inv.frz (h : Inv F K μ σ w) (o : Obj) : Inv (fun k => F k ∨ k = w.heap.size) K μ σ (w.alloc o) := by
  have he : Ext F K μ w (fun k => F k ∨ k = w.heap.size) μ (w.alloc o) := Ext.frz h.bdF h.bdK o
  refine ⟨fun b ob hb => ?_, h.inj, fun b sp hb hs => ⟨?_, (h.nof b sp hb hs).2⟩, fun k hk hf => ?_, fun k hk => ?_, fun k hk => ?_, h.fin⟩
  · exact (h.blk b ob hb).ext he (fun sp hs => alloc_old w o (h.lt (by rw [hb]; simp) hs)) id
  · rintro (h1 | h1)
    · exact (h.nof b sp hb hs).1 h1
    · have := h.lt hb hs; omega
  · rcases hf with hf | hf
    · exact h.sep k hk hf
    · have := h.bdK k hk; omega
  · simp only [World.size_alloc]
    rcases hk with hk | hk
    · have := h.bdF k hk; omega
    · omega
  · have := h.bdK k hk; simp; omega

/-- A new block that is nobody else's (a box of the frame). -/
theorem Ext.kep (hF : ∀ k, F k → k < w.heap.size) (hK : ∀ k, K k → k < w.heap.size) (o : Obj) : Ext F K μ w F μ (w.alloc o) :=
  ⟨rfl, rfl, rfl, fun _ => Nat.le_refl _, by simp, fun _ h => h, fun _ _ h => h, fun k hk => alloc_old w o (hk.elim (hF k) (hK k))⟩

theorem Inv.kep (h : Inv F K μ σ w) (o : Obj) : Inv F (fun k => K k ∨ k = w.heap.size) μ σ (w.alloc o) := by
  have he : Ext F K μ w F μ (w.alloc o) := Ext.kep h.bdF h.bdK o
  refine ⟨fun b ob hb => ?_, h.inj, fun b sp hb hs => ⟨(h.nof b sp hb hs).1, ?_⟩, fun k hk hf => ?_, fun k hk => ?_, fun k hk => ?_, h.fin⟩
  · exact (h.blk b ob hb).ext he (fun sp hs => alloc_old w o (h.lt (by rw [hb]; simp) hs)) id
  · rintro (h1 | h1)
    · exact (h.nof b sp hb hs).2 h1
    · have := h.lt hb hs; omega
  · rcases hk with hk | hk
    · exact h.sep k hk hf
    · have := h.bdF k hf; omega
  · have := h.bdF k hk; simp; omega
  · simp only [World.size_alloc]
    rcases hk with hk | hk
    · have := h.bdK k hk; omega
    · omega

theorem Inv.fresh (h : Inv F K μ σ w) : ∃ b, μ b = none ∧ σ b = none := let ⟨N, hN⟩ := h.fin; ⟨N, hN N (Nat.le_refl _)⟩

/-- A new block of the abstract heap. -/
theorem Ext.new (hF : ∀ k, F k → k < w.heap.size) (hK : ∀ k, K k → k < w.heap.size) (o : Obj) {b : Nat} (hb : μ b = none) (sp : Spot) : Ext F K μ w F (upd μ b (some sp)) (w.alloc o) :=
  ⟨rfl, rfl, rfl, fun _ => Nat.le_refl _, by simp, fun _ h => h, fun c s hc => by rw [upd_ne _ _ (fun e => by rw [e, hb] at hc; cases hc)]; exact hc, fun k hk => alloc_old w o (hk.elim (hF k) (hK k))⟩

theorem Inv.new (h : Inv F K μ σ w) (o : Obj) {b : Nat} (hb : μ b = none) {sp : Spot} (hk : sp.k = w.heap.size) {blk : Blk} (hn : BlkRel F (upd μ b (some sp)) (w.alloc o) b blk) :
    Inv F K (upd μ b (some sp)) (upd σ b (some blk)) (w.alloc o) := by
  have he : Ext F K μ w F (upd μ b (some sp)) (w.alloc o) := Ext.new h.bdF h.bdK o hb sp
  have lv : ∀ c s, (upd σ b (some blk)) c ≠ none → (upd μ b (some sp)) c = some s → (c = b ∧ s = sp) ∨ (c ≠ b ∧ σ c ≠ none ∧ μ c = some s) := by
    intro c s h1 h2
    by_cases hc : c = b
    · subst hc; simp at h2; exact .inl ⟨rfl, h2.symm⟩
    · rw [upd_ne _ _ hc] at h1 h2; exact .inr ⟨hc, h1, h2⟩
  refine ⟨fun c ob hc => ?_, fun c c' s s' h1 h2 h3 h4 h5 => ?_, fun c s h1 h2 => ?_, h.sep, fun k hk' => ?_, fun k hk' => ?_, ?_⟩
  · by_cases hcb : c = b
    · subst hcb; simp at hc; subst hc; exact hn
    · rw [upd_ne _ _ hcb] at hc
      refine (h.blk c ob hc).ext he (fun s hs => alloc_old w o (h.lt (by rw [hc]; simp) hs)) (fun hm => ?_)
      rw [upd_ne _ _ hcb]; exact hm
  · rcases lv c s h1 h3 with ⟨rfl, rfl⟩ | ⟨hc, g1, g2⟩ <;> rcases lv c' s' h2 h4 with ⟨rfl, rfl⟩ | ⟨hc', g1', g2'⟩
    · rfl
    · have := h.lt g1' g2'; omega
    · have := h.lt g1 g2; omega
    · exact h.inj c c' s s' g1 g1' g2 g2' h5
  · rcases lv c s h1 h2 with ⟨rfl, rfl⟩ | ⟨hc, g1, g2⟩
    · exact ⟨fun hf => by have := h.bdF _ hf; omega, fun hk' => by have := h.bdK _ hk'; omega⟩
    · exact h.nof c s g1 g2
  · have := h.bdF k hk'; simp; omega
  · have := h.bdK k hk'; simp; omega
  · obtain ⟨N, hN⟩ := h.fin
    refine ⟨max N (b + 1), fun c hc => ?_⟩
    rw [upd_ne _ _ (by omega), upd_ne _ _ (by omega)]
    exact hN c (by omega)

/-- A block is let go of. -/
theorem Inv.kill (h : Inv F K μ σ w) (b : Nat) : Inv F K μ (upd σ b none) w := by
  have hv : ∀ c, (upd σ b none) c ≠ none → c ≠ b ∧ σ c ≠ none := by
    intro c hc
    by_cases hcb : c = b
    · subst hcb; simp at hc
    · rw [upd_ne _ _ hcb] at hc; exact ⟨hcb, hc⟩
  refine ⟨fun c o hc => ?_, fun c c' s s' h1 h2 => h.inj c c' s s' (hv c h1).2 (hv c' h2).2, fun c s h1 => h.nof c s (hv c h1).2, h.sep, h.bdF, h.bdK, ?_⟩
  · have := (hv c (by rw [hc]; simp)).1
    rw [upd_ne _ _ this] at hc
    exact h.blk c o hc
  · obtain ⟨N, hN⟩ := h.fin
    refine ⟨N, fun c hc => ⟨(hN c hc).1, ?_⟩⟩
    by_cases hcb : c = b
    · subst hcb; simp
    · rw [upd_ne _ _ hcb]; exact (hN c hc).2

/-- What is known of less holds of less. -/
theorem Inv.sub {σ' : Heap} (h : Inv F K μ σ w) (hs : ∀ b o, σ' b = some o → σ b = some o) : Inv F K μ σ' w := by
  have hv : ∀ c, σ' c ≠ none → σ c ≠ none := by
    intro c hc
    cases ho : σ' c with
    | none => exact absurd ho hc
    | some o => rw [hs c o ho]; simp
  refine ⟨fun c o hc => h.blk c o (hs c o hc), fun c c' s s' h1 h2 => h.inj c c' s s' (hv c h1) (hv c' h2), fun c s h1 => h.nof c s (hv c h1), h.sep, h.bdF, h.bdK, ?_⟩
  obtain ⟨N, hN⟩ := h.fin
  refine ⟨N, fun c hc => ⟨(hN c hc).1, ?_⟩⟩
  cases ho : σ' c with
  | none => rfl
  | some o => have := hs c o ho; rw [(hN c hc).2] at this; cases this

/-- One live block is written. -/
theorem Inv.write (h : Inv F K μ σ w) {b : Nat} {sp : Spot} (hb : σ b ≠ none) (hs : μ b = some sp) (arr' : Array Value) {blk : Blk}
    (hn : BlkRel F μ (w.setRow sp.k arr') b blk) : Inv F K μ (upd σ b (some blk)) (w.setRow sp.k arr') ∧ Ext F K μ w F μ (w.setRow sp.k arr') := by
  have hk : ∀ k, k ≠ sp.k → (w.setRow sp.k arr').heap[k]? = w.heap[k]? := fun k hk => setRow_other w sp.k k arr' hk
  have hf := h.nof b sp hb hs
  have hsz : (w.setRow sp.k arr').heap.size = w.heap.size := by simp [World.setRow]
  have he : Ext F K μ w F μ (w.setRow sp.k arr') := ⟨rfl, rfl, rfl, fun _ => Nat.le_refl _, by rw [hsz]; exact Nat.le_refl _, fun _ h => h, fun _ _ h => h, fun k hk' => hk k (fun e => by subst e; exact hk'.elim hf.1 hf.2)⟩
  refine ⟨?_, he⟩
  have lv : ∀ c, (upd σ b (some blk)) c ≠ none → σ c ≠ none := by
    intro c hc
    by_cases hcb : c = b
    · subst hcb; exact hb
    · rw [upd_ne _ _ hcb] at hc; exact hc
  refine ⟨fun c ob hc => ?_, fun c c' s s' h1 h2 => h.inj c c' s s' (lv c h1) (lv c' h2), fun c s h1 => h.nof c s (lv c h1), h.sep, fun k hk' => by rw [hsz]; exact h.bdF k hk', fun k hk' => by rw [hsz]; exact h.bdK k hk', ?_⟩
  · by_cases hcb : c = b
    · subst hcb; simp at hc; subst hc; exact hn
    · rw [upd_ne _ _ hcb] at hc
      exact (h.blk c ob hc).ext he (fun s hs' => hk s.k (fun e => hcb (h.inj c b s sp (by rw [hc]; simp) hb hs' hs e))) id
  · obtain ⟨N, hN⟩ := h.fin
    refine ⟨max N (b + 1), fun c hc => ?_⟩
    rw [upd_ne _ _ (by omega)]
    exact hN c (by omega)

theorem run_storePart {P : Program} {t e : TypeId} {k o : Nat} {arr : Array Value} {v : Value} (hs : tySize P t = some v.cells.size) (hh : w.heap[k]? = some (.cells arr e (0, 0))) (hle : o + v.cells.size ≤ arr.size)
    (h1 : ∀ c ∈ v.cells.toList, c.oneCell' = true) : (storeVar t ⟨k, o, none⟩ v).run P w = .ok () (w.setRow k (over arr.toList o v.cells.toList).toArray) := by
  have := run_storeCells_at P k o e v.cells.toList 0 arr w hh (by simpa using hle) h1
  simp only [Nat.add_zero] at this
  simp only [storeVar, Sem.run_bind, run_size hs, Result.andThen_ok, ne_eq, not_true_eq_false, if_false, over]
  simpa using this

theorem setPart_rv {e e' : AV} {u : Value} {off : Nat} {cs : List AV} {vs : List Value} (h : e.setPart off cs = some e') (hu : RV F μ w e u) (hcl : CL F μ w cs vs) :
    ∃ u', RV F μ w e' u' ∧ e'.flat = true ∧ u'.cells.toList = over u.cells.toList off vs ∧ off + vs.length ≤ u.cells.size := by
  unfold AV.setPart at h
  have hlen := hcl.1
  split at h
  · rename_i zs
    split at h
    · rename_i hle
      cases h
      cases hu with
      | agg _ us hl h1 hc =>
        have hz : CL F μ w zs us := ⟨hl, fun i z v hz hv => by
          obtain ⟨hi, rfl⟩ := List.getElem?_eq_some_iff.1 hz
          obtain ⟨hj, rfl⟩ := List.getElem?_eq_some_iff.1 hv
          exact ⟨hc i hi hj, h1 i hi⟩⟩
        exact ⟨.agg (over us off vs).toArray, (hz.over hcl hle).agg, rfl, by simp [Value.cells], by simp [Value.cells]; omega⟩
    · cases h
  · split at h
    · rename_i hc
      obtain ⟨rfl, h1⟩ := hc
      split at h
      · rename_i c
        cases h
        match vs, hlen with
        | [v], _ =>
          have := hcl.2 0 e' v rfl rfl
          have ho := hu.oneCell h1
          have hv := this.1.oneCell this.2
          exact ⟨v, this.1, AV.one_flat this.2, by simp [one_cells ho, one_cells hv, over], by simp [one_cells ho]⟩
      · cases h
    · cases h

theorem CL.one {zs : List AV} {vs : List Value} (h : CL F μ w zs vs) : ∀ c ∈ vs, c.oneCell' = true := by
  intro c hc
  obtain ⟨i, hi, rfl⟩ := List.mem_iff_getElem.1 hc
  have hl := h.1
  have := h.2 i (zs[i]'(by omega)) vs[i] (List.getElem?_eq_getElem (by omega)) (List.getElem?_eq_getElem hi)
  exact this.1.oneCell this.2

/-- A store into an element of a row. -/
theorem LiesIn.set {sz i off : Nat} {es : List AV} {arr : Array Value} {e' : AV} {cs : List AV} {vs : List Value} (h : LiesIn F μ w sz es arr) (hi : i < es.length) (hsp : (es[i]).setPart off cs = some e')
    (hcl : CL F μ w cs vs) (hsize : es.length * sz ≤ arr.size) : LiesIn F μ w sz (es.set i e') (over arr.toList (i * sz + off) vs).toArray ∧ i * sz + off + vs.length ≤ arr.size := by
  obtain ⟨us, h1, h2, h3⟩ := h
  obtain ⟨u', r1, r2, r3, r4⟩ := setPart_rv hsp (h3 i hi).1 hcl
  have hsz := h1 i hi
  have hb : (i + 1) * sz ≤ es.length * sz := Nat.mul_le_mul_right _ hi
  rw [Nat.add_mul, Nat.one_mul] at hb
  have hle : i * sz + off + vs.length ≤ arr.size := by omega
  refine ⟨⟨fun j => if j = i then u' else us j, fun j hj => ?_, fun j q c hj hq => ?_, fun j hj => ?_⟩, hle⟩
  · simp only
    split
    · have := congrArg List.length r3
      rw [over_length (by simp; omega)] at this
      simp at this
      omega
    · exact h1 j (by simpa using hj)
  · rw [List.length_set] at hj
    simp only at hq
    have hget : (over arr.toList (i * sz + off) vs).toArray[j * sz + q]? = (over arr.toList (i * sz + off) vs)[j * sz + q]? := by simp
    rw [hget, over_get (by simp; omega)]
    split at hq
    · rename_i hji
      subst hji
      have hq' : u'.cells.toList[q]? = some c := by simpa using hq
      rw [r3, over_get (by simp; omega)] at hq'
      split at hq'
      · rename_i hc
        rw [if_pos (by omega)]
        rw [← hq']; congr 1; omega
      · rename_i hc
        rw [if_neg (by omega)]
        have := h2 j q c hj (by simpa using hq')
        simpa using this
    · rename_i hji
      have hqs : q < sz := by
        have h5 := h1 j hj
        obtain ⟨h6, _⟩ := Array.getElem?_eq_some_iff.1 hq
        omega
      have hne : ¬ (i * sz + off ≤ j * sz + q ∧ j * sz + q < i * sz + off + vs.length) := by
        rintro ⟨g1, g2⟩
        rcases Nat.lt_or_gt_of_ne hji with g | g
        · have := Nat.mul_le_mul_right sz g
          rw [Nat.succ_mul] at this
          omega
        · have := Nat.mul_le_mul_right sz g
          rw [Nat.succ_mul] at this
          omega
      rw [if_neg hne]
      have := h2 j q c hj hq
      simpa using this
  · rw [List.length_set] at hj
    simp only [List.getElem_set]
    by_cases hji : j = i
    · subst hji; simp [r1, r2]
    · rw [if_neg (fun e => hji e.symm), if_neg hji]; exact h3 j hj

end
end Go.Av

namespace Go.Av

section
variable {B : List Nat} {n : Nat} {F F' K : Nat → Prop} {μ μ' : Nat → Option Spot} {β : Nat → Nat} {U U' : Nat → Prop} {env : Env} {σ σ' : Heap} {a : Act} {w w' : World} {P : Program}

/-- What comes behind an operation. -/
def Post (B : List Nat) (n : Nat) (F K : Nat → Prop) (μ : Nat → Option Spot) (w : World) (U : Nat → Prop) (k : Env → Heap → Prop) (a' : Act) (w' : World) : Prop :=
  ∃ F' μ' β' env' σ', k env' σ' ∧ Rel B n F' K μ' β' U env' σ' a' w' ∧ Ext F K μ w F' μ' w'

theorem put_size (a : Act) (d : Option Nat) (v : Value) : (a.put d v).tmps.size = a.tmps.size := by cases d <;> simp [Act.put]
theorem put_defers (a : Act) (d : Option Nat) (v : Value) : (a.put d v).defers = a.defers := by cases d <;> rfl
theorem put_getD (a : Act) {d : Nat} (v : Value) (hd : d < a.tmps.size) (t : Nat) : (a.put (some d) v).tmps.getD t undef = if t = d then v else a.tmps.getD t undef := by
  simp only [Act.put, Array.getD_eq_getD_getElem?, Array.getElem?_setIfInBounds]
  by_cases h : d = t
  · subst h; simp [hd]
  · rw [if_neg h, if_neg (fun e => h e.symm)]

theorem EVo.ext {K' : Nat → Prop} (h : Ext F K' μ w F' μ' w') {x : AV} {v : Value} (hv : EVo U env β F μ w x v) : EVo U env β F' μ' w' x v := by
  cases x <;> first | exact RV.ext h hv | exact hv

/-- What a slot holds in a later world, the boxes' blocks being let alone. -/
theorem EVt.ext {K' : Nat → Prop} (h : Ext F K' μ w F' μ' w') {t : Nat} {x : AV} {v : Value} (hk : ∀ st e, x = .box st e → K' (β t)) (hv : EVt U env β F μ w t x v) : EVt U env β F' μ' w' t x v := by
  cases x <;> first | exact RV.ext h hv | exact hv | skip
  obtain ⟨h1, h2, h3, u, ty, h4, h5⟩ := hv
  exact ⟨h1, h2, h3, u, ty, h4.ext h, (h.keep _ (.inr (hk _ _ rfl))).trans h5⟩

theorem EVt.monoU (hU : ∀ s, U s → U' s) {t : Nat} {x : AV} {v : Value} (hv : EVt U env β F μ w t x v) : EVt U' env β F μ w t x v := by
  cases x <;> first | exact hv | exact ⟨hU _ hv.1, hv.2⟩

/-- The frame in a later world. -/
theorem Rel.ext (hr : Rel B n F K μ β U env σ a w) (he : Ext F (KB K env β) μ w F' μ' w') (hi : Inv F' (KB K env β) μ' σ' w') : Rel B n F' K μ' β U env σ' a w' :=
  ⟨hr.size, hr.defers, hr.nb, fun t => (hr.val t).ext he (fun st e hx => .inr ⟨t, st, e, hx, rfl⟩), hr.dis, hr.kb, hi⟩

theorem Rel.monoU (hr : Rel B n F K μ β U env σ a w) (hU : ∀ s, U s → U' s) : Rel B n F K μ β U' env σ a w :=
  ⟨hr.size, hr.defers, hr.nb, fun t => (hr.val t).monoU hU, hr.dis, hr.kb, hr.inv⟩

theorem Ext.monoK {K' : Nat → Prop} (h : Ext F K μ w F' μ' w') (hk : ∀ k, K' k → K k) : Ext F K' μ w F' μ' w' :=
  ⟨h.os, h.tape, h.output, h.dr, h.size, h.fz, h.mu, fun k hk' => h.keep k (hk'.imp id (hk k))⟩

/-- A value is put into a slot that is no box. -/
theorem Rel.put (hr : Rel B n F K μ β U env σ a w) {d : Option Nat} {r : AV} {u : Value} (hv : EVo U env β F μ w r u) (hd : ∀ t, d = some t → t < n ∧ B.contains t = false) :
    Rel B n F K μ β U (putE env d r) σ (a.put d u) w := by
  cases d with
  | none => exact hr
  | some d =>
    obtain ⟨hdn, hdB⟩ := hd d rfl
    have hnr : ∀ st e, r ≠ .box st e := fun st e h => by rw [h] at hv; exact hv
    have hbox : ∀ t st e, (upd env d r) t = .box st e → t ≠ d ∧ env t = .box st e := by
      intro t st e h
      by_cases htd : t = d
      · subst htd; simp at h; exact absurd h (hnr st e)
      · rw [upd_ne _ _ htd] at h; exact ⟨htd, h⟩
    have hbox' : ∀ t st e, env t = .box st e → (upd env d r) t = .box st e := by
      intro t st e h
      have : t ≠ d := fun e' => by subst e'; have := hr.nb _ _ _ h; rw [hdB] at this; cases this
      rw [upd_ne _ _ this]; exact h
    have hKB : ∀ k, KB K (upd env d r) β k ↔ KB K env β k := by
      intro k
      constructor
      · rintro (h | ⟨t, st, e, h1, h2⟩)
        · exact .inl h
        · exact .inr ⟨t, st, e, (hbox t st e h1).2, h2⟩
      · rintro (h | ⟨t, st, e, h1, h2⟩)
        · exact .inl h
        · exact .inr ⟨t, st, e, hbox' t st e h1, h2⟩
    refine ⟨by rw [put_size]; exact hr.size, by rw [put_defers]; exact hr.defers, fun t st e h => hr.nb t st e (hbox t st e h).2, fun t => ?_,
      fun t t' st st' e e' h1 h2 => hr.dis t t' st st' e e' (hbox t st e h1).2 (hbox t' st' e' h2).2, fun t st e h => hr.kb t st e (hbox t st e h).2, hr.inv.monoK fun k => (hKB k).1⟩
    rw [put_getD a u (by rw [hr.size]; exact hdn)]
    simp only [putE_some]
    by_cases htd : t = d
    · subst htd
      rw [if_pos rfl, upd_same]
      cases r <;> first | exact hv | (exact absurd rfl (hnr _ _)) | exact ⟨hv.1, fun e he => hv.2 e (hbox _ _ _ he).2⟩
    · rw [if_neg htd, upd_ne _ _ htd]
      have := hr.val t
      revert this
      cases env t <;> intro h <;> first | exact h | exact ⟨h.1, fun e he => h.2 e (hbox _ _ _ he).2⟩

/-- A new box of the frame. -/
theorem Rel.nbox (hr : Rel B n F K μ β U env σ a w) {d st : Nat} {z : AV} {zv : Value} {ty : TypeId} (hz : RV F μ w z zv) (hf : z.flat = true) (hd : d < n) (hB : B.contains d = true) (hst : ¬ U st) :
    Rel B n F K μ (upd β d w.heap.size) (fun s => U s ∨ s = st) (upd env d (.box st z)) σ (a.put (some d) (.pointer (some ⟨w.heap.size, 0, none⟩))) (w.alloc (.cells zv.cells ty (0, 0))) ∧
    Ext F K μ w F μ (w.alloc (.cells zv.cells ty (0, 0))) := by
  have hkF : ∀ k, F k → k < w.heap.size := hr.inv.bdF
  have hkK : ∀ k, KB K env β k → k < w.heap.size := hr.inv.bdK
  have he : Ext F (KB K env β) μ w F μ (w.alloc (.cells zv.cells ty (0, 0))) := Ext.kep hkF hkK _
  have hbox : ∀ t s e, (upd env d (.box st z)) t = .box s e → (t = d ∧ s = st ∧ e = z) ∨ (t ≠ d ∧ env t = .box s e) := by
    intro t s e h
    by_cases htd : t = d
    · subst htd; simp at h; exact .inl ⟨rfl, h.1.symm, h.2.symm⟩
    · rw [upd_ne _ _ htd] at h; exact .inr ⟨htd, h⟩
  refine ⟨⟨by rw [put_size]; exact hr.size, by rw [put_defers]; exact hr.defers, fun t s e h => ?_, fun t => ?_, fun t t' s s' e e' h1 h2 h3 => ?_, fun t s e h hk => ?_, ?_⟩, he.monoK fun k h => .inl h⟩
  · rcases hbox t s e h with ⟨rfl, _⟩ | ⟨_, h⟩
    · exact hB
    · exact hr.nb t s e h
  · rw [put_getD a _ (by rw [hr.size]; exact hd)]
    by_cases htd : t = d
    · subst htd
      rw [if_pos rfl, upd_same]
      refine ⟨.inr rfl, by rw [upd_same], hf, zv, ty, hz.ext he, ?_⟩
      rw [upd_same]; exact alloc_new w _
    · rw [if_neg htd, upd_ne _ _ htd]
      have hv := (hr.val t).ext he (fun s e hx => .inr ⟨t, s, e, hx, rfl⟩)
      revert hv
      cases env t <;> intro h <;> first | exact h | skip
      · rename_i s e
        obtain ⟨h1, h2, h3⟩ := h
        refine ⟨.inl h1, by rw [upd_ne _ _ htd]; exact h2, ?_⟩
        rw [upd_ne _ _ htd]; exact h3
      · rename_i t' s o
        refine ⟨.inl h.1, fun e he' => ?_⟩
        rcases hbox t' s e he' with ⟨rfl, rfl, _⟩ | ⟨htd', he'⟩
        · exact absurd h.1 hst
        · rw [upd_ne _ _ htd']; exact h.2 e he'
  · rcases hbox t s e h1 with ⟨rfl, _⟩ | ⟨g1, g2⟩ <;> rcases hbox t' s' e' h2 with ⟨rfl, _⟩ | ⟨g1', g2'⟩
    · rfl
    · rw [upd_same, upd_ne _ _ g1'] at h3
      have := hkK (β t') (.inr ⟨t', s', e', g2', rfl⟩); omega
    · rw [upd_same, upd_ne _ _ g1] at h3
      have := hkK (β t) (.inr ⟨t, s, e, g2, rfl⟩); omega
    · rw [upd_ne _ _ g1, upd_ne _ _ g1'] at h3
      exact hr.dis t t' s s' e e' g2 g2' h3
  · rcases hbox t s e h with ⟨rfl, _⟩ | ⟨g1, g2⟩
    · rw [upd_same] at hk
      have := hkK _ (.inl hk); omega
    · rw [upd_ne _ _ g1] at hk; exact hr.kb t s e g2 hk
  · refine (hr.inv.kep _).monoK fun k hk => ?_
    rcases hk with hk | ⟨t, s, e, h1, h2⟩
    · exact .inl (.inl hk)
    · rcases hbox t s e h1 with ⟨rfl, _⟩ | ⟨g1, g2⟩
      · rw [upd_same] at h2; exact .inr h2.symm
      · rw [upd_ne _ _ g1] at h2; exact .inl (.inr ⟨t, s, e, g2, h2⟩)

end
end Go.Av

namespace Go.Av

section
variable {B : List Nat} {n : Nat} {F F' K : Nat → Prop} {μ μ' : Nat → Option Spot} {β : Nat → Nat} {U U' : Nat → Prop} {env : Env} {σ σ' : Heap} {a : Act} {w w' : World} {P : Program}

theorem fill_row (sz : Nat) : ∀ (vs : List Value) (k : Nat) (arr : Array Value), (∀ v ∈ vs, v.cells.size = sz) → (k + vs.length) * sz ≤ arr.size →
    ∃ arr', Instr.fill (fun i => some (i * sz, sz)) arr ((vs.zipIdx k).map fun p => (p.2, p.1)) = some arr' ∧ arr'.size = arr.size ∧ (∀ p, p < k * sz → arr'[p]? = arr[p]?) ∧
      ∀ i j c (h : i < vs.length), (vs[i]).cells[j]? = some c → arr'[(k + i) * sz + j]? = some c
  | [], k, arr, _, _ => ⟨arr, rfl, rfl, fun _ _ => rfl, fun i j c h => absurd h (Nat.not_lt_zero _)⟩
  | v :: vs, k, arr, hs, hle => by
    have hv := hs v (by simp)
    simp only [List.length_cons] at hle
    have hk1 : (k + 1) * sz ≤ (k + (vs.length + 1)) * sz := Nat.mul_le_mul_right _ (by omega)
    rw [Nat.add_mul, Nat.one_mul] at hk1
    have hfold := fold_set (k * sz) v.cells.toList 0 arr (by simp; omega)
    rw [Nat.add_zero] at hfold
    have hfold' : v.cells.zipIdx.foldl (fun cs (c, j) => cs.setIfInBounds (k * sz + j) c) arr = (over arr.toList (k * sz) v.cells.toList).toArray := by
      rw [← hfold, ← Array.foldl_toList, Array.toList_zipIdx]
    have hl : (over arr.toList (k * sz) v.cells.toList).toArray.size = arr.size := by
      rw [List.size_toArray, over_length (by simp; omega)]; simp
    obtain ⟨arr', h1, h2, h3, h4⟩ := fill_row sz vs (k + 1) (over arr.toList (k * sz) v.cells.toList).toArray (fun u hu => hs u (by simp [hu])) (by rw [hl]; rw [show k + 1 + vs.length = k + (vs.length + 1) by omega]; exact hle)
    have hget : ∀ p, (over arr.toList (k * sz) v.cells.toList).toArray[p]? = if k * sz ≤ p ∧ p < k * sz + sz then v.cells[p - k * sz]? else arr[p]? := by
      intro p
      rw [List.getElem?_toArray, over_get (by simp; omega)]
      simp [hv]
    refine ⟨arr', ?_, h2.trans hl, fun p hp => ?_, fun i j c hi hc => ?_⟩
    · rw [List.zipIdx_cons, List.map_cons]
      simp only [Instr.fill]
      rw [if_neg (by simp; omega), hfold']
      exact h1
    · rw [h3 p (by rw [Nat.add_mul]; omega), hget, if_neg (by omega)]
    · cases i with
      | zero =>
        simp only [List.getElem_cons_zero] at hc
        have hj : j < sz := by rw [← hv]; exact (Array.getElem?_eq_some_iff.1 hc).1
        rw [Nat.add_zero, h3 _ (by rw [Nat.add_mul]; omega), hget, if_pos (by omega)]
        rw [show k * sz + j - k * sz = j by omega]; exact hc
      | succ i =>
        simp only [List.getElem_cons_succ] at hc
        have := h4 i j c (by simpa using hi) hc
        rw [show k + (i + 1) = k + 1 + i by omega]; exact this

theorem run_bslice {o : Oper} {t e : TypeId} {m : Nat} {parts : Array (Nat × Operand)} {sz : Nat} {els : List Opd} {z : AV} (ho : o.op = .buildSlice t m parts) (hu : P.underlying t = some (.slice e)) (hs : tySize P e = some sz) (hz : tyZero P e = some z)
    (he : (parts.toList.mapM fun p => opd B p.2) = some els) (hp : parts.toList.map (·.1) = List.range m) (h0 : 0 < sz) (hb : m * sz ≤ 16777216) (hr : Rel B n F K μ β U env σ a w) (hok : rowOk sz (els.map (·.ev env)) = true) :
    els.length = m ∧ ∃ arr, (execOp a.eval o).run P w = .ok (.value (.slice (some ⟨w.heap.size, 0, none⟩) m m)) (w.alloc (.cells arr e (0, 0))) ∧ arr.size = m * sz ∧ LiesIn F μ w sz (els.map (·.ev env)) arr := by
  obtain ⟨h1, h2⟩ := mapM_some he
  have hm : parts.toList.length = m := by have := congrArg List.length hp; simpa using this
  have hlen : els.length = m := by omega
  refine ⟨hlen, ?_⟩
  have hok' : ∀ x ∈ els, (x.ev env).flat = true ∧ (x.ev env).cells.length = sz := by
    intro x hx
    have := List.all_eq_true.1 hok (x.ev env) (List.mem_map.2 ⟨x, hx, rfl⟩)
    simpa using this
  have hrv : ∀ i (hi : i < els.length) (hj : i < parts.toList.length), RV F μ w (els[i].ev env) (a.eval (parts.toList[i]).2) := fun i hi hj => (opd_ev (h2 i hj hi) hr).of_flat (hok' _ (List.getElem_mem _)).1
  have hvs : ∀ v ∈ parts.toList.map (fun p => a.eval p.2), v.cells.size = sz := by
    intro v hv
    obtain ⟨i, hi, rfl⟩ := List.mem_iff_getElem.1 hv
    simp only [List.getElem_map]
    simp only [List.length_map] at hi
    have := ((hrv i (by omega) hi).cells (hok' _ (List.getElem_mem _)).1).1
    rw [this]; exact (hok' _ (List.getElem_mem _)).2
  obtain ⟨zv, z1, z2, z3, z4, _⟩ := tyZero_ok hz F μ w
  have hz4 : z.cells.length = sz := by rw [hs] at z4; simpa using z4.symm
  generalize harr0 : ((Array.range (m * sz)).map fun x => (zv.cells)[x % zv.cells.size]!) = arr0
  have hsz0 : arr0.size = m * sz := by rw [← harr0]; simp
  obtain ⟨arr, f1, f2, _, f4⟩ := fill_row sz (parts.toList.map (fun p => a.eval p.2)) 0 arr0 hvs (by rw [hsz0, List.length_map, hm, Nat.zero_add]; exact Nat.le_refl _)
  have hparts : ((parts.toList.map fun p => a.eval p.2).zipIdx 0).map (fun p => (p.2, p.1)) = parts.toList.map fun p => (p.1, a.eval p.2) := by
    apply List.ext_getElem
    · simp
    · intro i hi hj
      simp only [List.getElem_map, List.getElem_zipIdx, Nat.zero_add]
      have : (parts.toList[i]'(by simpa using hj)).1 = i := by
        have := List.getElem_of_eq hp (i := i) (by simpa using hj)
        simpa using this
      rw [this]
  rw [hparts] at f1
  refine ⟨arr, ?_, by rw [f2, hsz0], fun i => (parts.toList.map (fun p => a.eval p.2)).getD i undef, fun i hi => ?_, fun i j c hi hc => ?_, fun i hi => ?_⟩
  · have hb' : ¬ (m * sz > 16777216) := by omega
    by_cases hm0 : m * sz = 0
    · have : m = 0 := by
        rcases Nat.mul_eq_zero.1 hm0 with h | h
        · exact h
        · omega
      subst this
      have harr0' : arr0 = #[] := by apply Array.eq_empty_of_size_eq_zero; omega
      have hpe : parts.toList = [] := List.eq_nil_of_length_eq_zero hm
      rw [hpe] at f1
      rw [harr0'] at f1
      cases f1
      have hpe' : parts = #[] := by apply Array.eq_empty_of_size_eq_zero; simpa using hm
      simp [execOp, ho, Instr.buildSlice, run_underlying hu, run_size hs, hpe', Instr.fill, newRow, newObj, Sem.run]
      have e0 : Array.range 0 = #[] := by apply Array.eq_empty_of_size_eq_zero; simp
      rw [e0, Array.map_empty]
    · have f1' : Instr.fill (fun i => some (i * sz, sz)) arr0 (List.map (fun x => (x.1, a.eval x.2)) parts.toList) = some arr := f1
      simp [execOp, ho, Instr.buildSlice, run_underlying hu, run_size hs, hb', hm0, z1, newRow, newObj, Sem.run, harr0, f1']
  · simp only [List.length_map] at hi
    have hi' : i < (parts.toList.map (fun p => a.eval p.2)).length := by rw [List.length_map]; omega
    have hg : (parts.toList.map (fun p => a.eval p.2)).getD i undef = (parts.toList.map (fun p => a.eval p.2))[i] := by simp only [List.getD, List.getElem?_eq_getElem hi']; rfl
    show ((parts.toList.map (fun p => a.eval p.2)).getD i undef).cells.size = sz
    rw [hg]
    exact hvs _ (List.getElem_mem _)
  · simp only [List.length_map] at hi
    have hi' : i < (parts.toList.map (fun p => a.eval p.2)).length := by rw [List.length_map]; omega
    have hg : (parts.toList.map (fun p => a.eval p.2)).getD i undef = (parts.toList.map (fun p => a.eval p.2))[i] := by simp only [List.getD, List.getElem?_eq_getElem hi']; rfl
    have hc' : ((parts.toList.map (fun p => a.eval p.2)).getD i undef).cells[j]? = some c := hc
    rw [hg] at hc'
    have := f4 i j c hi' hc'
    simpa using this
  · have hi2 := hi
    simp only [List.length_map] at hi
    have hi' : i < (parts.toList.map (fun p => a.eval p.2)).length := by rw [List.length_map]; omega
    have hg : (parts.toList.map (fun p => a.eval p.2)).getD i undef = (parts.toList.map (fun p => a.eval p.2))[i] := by simp only [List.getD, List.getElem?_eq_getElem hi']; rfl
    show RV F μ w _ ((parts.toList.map (fun p => a.eval p.2)).getD i undef) ∧ _
    rw [hg]
    simp only [List.getElem_map]
    exact ⟨hrv i hi (by omega), (hok' _ (List.getElem_mem _)).1⟩

end
end Go.Av

namespace Go.Av

section
variable {B : List Nat} {n : Nat} {F F' K : Nat → Prop} {μ μ' : Nat → Option Spot} {β : Nat → Nat} {U U' : Nat → Prop} {env : Env} {σ σ' : Heap} {a : Act} {w w' : World} {P : Program}

/-- Where an operation's value may go. -/
def DstOk (B : List Nat) (n : Nat) (d : Option Nat) : Prop := ∀ t, d = some t → t < n ∧ B.contains t = false

theorem wp_value {o : Oper} {u : Value} {next : Act → World → Prop} {Q : Exit → Act → World → Prop} (h : (execOp a.eval o).run P w = .ok (.value u) w') (hn : next (a.put o.dst u) w') : o.wp P a w next Q := by
  unfold Oper.wp; rw [h]; exact hn

theorem step_quiet {o : Oper} {r : AV} {k : Env → Heap → Prop} {Q : Exit → Act → World → Prop} (hr : Rel B n F K μ β U env σ a w) (hd : DstOk B n o.dst) (h : Does P U env β F μ w a o r) (hU : ∀ s, U s → U' s)
    (hk : k (putE env o.dst r) σ) : o.wp P a w (Post B n F K μ w U' k) Q := by
  obtain ⟨u, h1, h2⟩ := h
  exact wp_value h1 ⟨F, μ, β, _, σ, hk, (hr.put h2 hd).monoU hU, Ext.refl F K μ w⟩

/-- A value out of a later world. -/
theorem step_later {o : Oper} {r : AV} {u : Value} {k : Env → Heap → Prop} {Q : Exit → Act → World → Prop} (hr : Rel B n F K μ β U env σ a w) (hd : DstOk B n o.dst) (h : (execOp a.eval o).run P w = .ok (.value u) w')
    (he : Ext F (KB K env β) μ w F' μ' w') (hi : Inv F' (KB K env β) μ' σ' w') (hv : RV F' μ' w' r u) (hU : ∀ s, U s → U' s) (hk : k (putE env o.dst r) σ') : o.wp P a w (Post B n F K μ w U' k) Q :=
  wp_value h ⟨F', μ', β, _, σ', hk, ((hr.ext he hi).put (EVo.of_rv hv) hd).monoU hU, he.monoK fun _ h => .inl h⟩

theorem cell_new (w : World) (arr : Array Value) (e : TypeId) (j : Nat) : (w.alloc (.cells arr e (0, 0))).cell? ⟨w.heap.size, j, none⟩ = arr[j]? := by
  show (match (w.alloc (.cells arr e (0, 0))).heap[w.heap.size]? with | some (.cells c _ _) => if (none : Option Nat).isSome then none else c[j]? | _ => none) = _
  rw [alloc_new]; rfl

theorem step_bslice {o : Oper} {t e : TypeId} {m : Nat} {parts : Array (Nat × Operand)} {sz nv : Nat} {els : List Opd} {z r : AV} {k : Env → Heap → Prop} {Q : Exit → Act → World → Prop} (ho : o.op = .buildSlice t m parts) (hu : P.underlying t = some (.slice e)) (hs : tySize P e = some sz) (hz : tyZero P e = some z)
    (hels : (parts.toList.mapM fun p => opd B p.2) = some els) (hp : parts.toList.map (·.1) = List.range m) (h0 : 0 < sz) (hb : m * sz ≤ 16777216) (hr : Rel B n F K μ β U env σ a w) (hd : DstOk B n o.dst)
    (hv : evalI env nv σ (.bslice sz els) = some r) (hU : ∀ s, U s → U' s) (hk : k (putE env o.dst r) σ) : o.wp P a w (Post B n F K μ w U' k) Q := by
  simp only [evalI] at hv
  have hok : rowOk sz (els.map (·.ev env)) = true ∧ r = (if els.map (·.ev env) = [] then .nils else .lst sz (els.map (·.ev env))) := by
    split at hv
    · rename_i h; rw [h]; cases hv; exact ⟨rfl, rfl⟩
    · rename_i es h
      split at hv
      · rename_i hall; cases hv; exact ⟨hall, by rw [if_neg h]⟩
      · cases hv
  obtain ⟨hok, rfl⟩ := hok
  obtain ⟨hlen, arr, h1, h2, us, l1, l2, l3⟩ := run_bslice ho hu hs hz hels hp h0 hb hr hok
  have he : Ext F (KB K env β) μ w (fun k => F k ∨ k = w.heap.size) μ (w.alloc (.cells arr e (0, 0))) := Ext.frz hr.inv.bdF hr.inv.bdK _
  refine step_later hr hd h1 he (hr.inv.frz _) ?_ hU hk
  split
  · rename_i h
    have hm0 : m = 0 := by rw [← hlen]; have := congrArg List.length h; rw [List.length_map] at this; exact this
    subst hm0; exact .nils _
  · have := RV.lst (F := fun k => F k ∨ k = w.heap.size) (μ := μ) (w := w.alloc (.cells arr e (0, 0))) sz (els.map (·.ev env)) w.heap.size 0 m us (.inr rfl) (by simp; omega)
      (fun e' he' => by
        have := List.all_eq_true.1 hok e' he'
        simp at this; exact this.1)
      l1 (fun i j c hi hj => by
        rw [Nat.zero_add]
        rw [cell_new]
        exact l2 i j c hi hj) (fun i hi => (l3 i hi).1.ext he)
    simp only [List.length_map, hlen] at this
    exact this

theorem step_bsliceO {o : Oper} {t e : TypeId} {m : Nat} {parts : Array (Nat × Operand)} {sz : Nat} {els : List Opd} {z : AV} {k : Env → Heap → Prop} {Q : Exit → Act → World → Prop} (ho : o.op = .buildSlice t m parts) (hu : P.underlying t = some (.slice e)) (hs : tySize P e = some sz) (hz : tyZero P e = some z)
    (hels : (parts.toList.mapM fun p => opd B p.2) = some els) (hp : parts.toList.map (·.1) = List.range m) (h0 : 0 < sz) (hb : m * sz ≤ 16777216) (hr : Rel B n F K μ β U env σ a w) (hd : DstOk B n o.dst)
    (hok : rowOk sz (els.map (·.ev env)) = true) (hU : ∀ s, U s → U' s) (hk : ∀ b, σ b = none → k (putE env o.dst (.row sz b 0 els.length)) (upd σ b (some (.row sz (els.map (·.ev env)))))) : o.wp P a w (Post B n F K μ w U' k) Q := by
  obtain ⟨hlen, arr, h1, h2, hl⟩ := run_bslice ho hu hs hz hels hp h0 hb hr hok
  obtain ⟨b, hb1, hb2⟩ := hr.inv.fresh
  have hle : m ≤ maxLen := by
    have : m ≤ m * sz := Nat.le_mul_of_pos_right _ h0
    unfold maxLen; omega
  have he : Ext F (KB K env β) μ w F (upd μ b (some ⟨w.heap.size, sz, m⟩)) (w.alloc (.cells arr e (0, 0))) := Ext.new hr.inv.bdF hr.inv.bdK _ hb1 _
  refine step_later (F' := F) (μ' := upd μ b (some ⟨w.heap.size, sz, m⟩)) (w' := w.alloc (.cells arr e (0, 0))) (σ' := upd σ b (some (.row sz (els.map (·.ev env))))) hr hd h1 he ?_ ?_ hU (hk b hb2)
  · refine hr.inv.new _ hb1 rfl (.inr ⟨⟨w.heap.size, sz, m⟩, arr, e, upd_same _ _ _, alloc_new w _, h2, rfl, by rw [List.length_map, hlen]; exact Nat.le_refl _, hle, hl.ext he⟩)
  · rw [hlen]
    have := RV.row (F := F) (μ := upd μ b (some ⟨w.heap.size, sz, m⟩)) (w := w.alloc (.cells arr e (0, 0))) sz b 0 m m ⟨w.heap.size, sz, m⟩ (by simp) rfl (Nat.le_refl _) (by simp)
    simpa using this

/-- A variable in memory. -/
theorem run_newVar (t : TypeId) (v : Value) (w : World) : (newVar t v).run P w = .ok ⟨w.heap.size, 0, none⟩ (w.alloc (.cells v.cells t (0, 0))) := by
  simp [newVar, newRow, newObj, Sem.run]

theorem run_alloc {o : Oper} {t : TypeId} {z : AV} (ho : o.op = .alloc t) (hz : tyZero P t = some z) (F : Nat → Prop) (μ : Nat → Option Spot) (w : World) :
    ∃ zv, (execOp a.eval o).run P w = .ok (.value (.pointer (some ⟨w.heap.size, 0, none⟩))) (w.alloc (.cells zv.cells t (0, 0))) ∧ RV F μ w z zv ∧ z.flat = true := by
  obtain ⟨zv, h1, h2, h3, _⟩ := tyZero_ok hz F μ w
  refine ⟨zv, ?_, h2, h3⟩
  have : (Instr.alloc t true (.tuple #[])).run P w = .ok (.pointer (some ⟨w.heap.size, 0, none⟩)) (w.alloc (.cells zv.cells t (0, 0))) := by
    unfold Instr.alloc
    simp [h1, run_newVar]
  simp [execOp, ho, this]

theorem run_boxv {o : Oper} {t : TypeId} {x : Operand} (ho : o.op = .box t x) (w : World) :
    (execOp a.eval o).run P w = .ok (.value (.pointer (some ⟨w.heap.size, 0, none⟩))) (w.alloc (.cells (a.eval x).cells t (0, 0))) := by
  simp [execOp, ho, Instr.box, run_newVar]

theorem step_newbox {o : Oper} {t : TypeId} {z : AV} {zv : Value} {d st : Nat} {k : Env → Heap → Prop} {Q : Exit → Act → World → Prop} (hr : Rel B n F K μ β U env σ a w)
    (h : (execOp a.eval o).run P w = .ok (.value (.pointer (some ⟨w.heap.size, 0, none⟩))) (w.alloc (.cells zv.cells t (0, 0)))) (hz : RV F μ w z zv) (hf : z.flat = true) (hdst : o.dst = some d) (hd : d < n) (hB : B.contains d = true)
    (hst : ¬ U st) (hU : ∀ s, U s ∨ s = st → U' s) (hk : k (upd env d (.box st z)) σ) : o.wp P a w (Post B n F K μ w U' k) Q := by
  obtain ⟨h1, h2⟩ := hr.nbox (ty := t) hz hf hd hB hst
  exact wp_value h ⟨F, μ, upd β d w.heap.size, _, σ, hk, by rw [hdst]; exact h1.monoU hU, h2⟩

theorem LiesIn.var {z : AV} {zv : Value} (hz : RV F μ w z zv) (hf : z.flat = true) : LiesIn F μ w z.cells.length [z] zv.cells := by
  have hsz := (hz.cells hf).1
  refine ⟨fun _ => zv, fun i hi => hsz, fun i j c hi hj => ?_, fun i hi => ?_⟩
  · have : i = 0 := by simpa using hi
    subst this; simpa using hj
  · have : i = 0 := by simpa using hi
    subst this; exact ⟨hz, hf⟩

theorem step_newvar {o : Oper} {t : TypeId} {z : AV} {zv : Value} {k : Env → Heap → Prop} {Q : Exit → Act → World → Prop} (hr : Rel B n F K μ β U env σ a w) (hd : DstOk B n o.dst)
    (h : (execOp a.eval o).run P w = .ok (.value (.pointer (some ⟨w.heap.size, 0, none⟩))) (w.alloc (.cells zv.cells t (0, 0)))) (hz : RV F μ w z zv) (hf : z.flat = true)
    (hU : ∀ s, U s → U' s) (hk : ∀ b, σ b = none → k (putE env o.dst (.ptr b 0 0)) (upd σ b (some (.row z.cells.length [z])))) : o.wp P a w (Post B n F K μ w U' k) Q := by
  obtain ⟨b, hb1, hb2⟩ := hr.inv.fresh
  have hsz := (hz.cells hf).1
  have he : Ext F (KB K env β) μ w F (upd μ b (some ⟨w.heap.size, z.cells.length, 1⟩)) (w.alloc (.cells zv.cells t (0, 0))) := Ext.new hr.inv.bdF hr.inv.bdK _ hb1 _
  refine step_later hr hd h he (hr.inv.new (blk := .row z.cells.length [z]) _ hb1 rfl (.inr ⟨⟨w.heap.size, z.cells.length, 1⟩, zv.cells, t, by simp, alloc_new w _, by simp [hsz], rfl, by simp, by simp [maxLen], (LiesIn.var hz hf).ext he⟩)) ?_ hU (hk b hb2)
  have := RV.ptr (F := F) (μ := upd μ b (some ⟨w.heap.size, z.cells.length, 1⟩)) (w := w.alloc (.cells zv.cells t (0, 0))) b 0 0 ⟨w.heap.size, z.cells.length, 1⟩ (by simp)
  simpa using this

end
end Go.Av

namespace Go.Av

section
variable {B : List Nat} {n : Nat} {F F' K : Nat → Prop} {μ μ' : Nat → Option Spot} {β : Nat → Nat} {U U' : Nat → Prop} {env : Env} {σ σ' : Heap} {a : Act} {w w' : World} {P : Program}

theorem wp_skip' {o : Oper} {next : Act → World → Prop} {Q : Exit → Act → World → Prop} (hd : o.dst = none) (h : (execOp a.eval o).run P w = .ok .skip w') (hn : next a w') : o.wp P a w next Q := by
  unfold Oper.wp; rw [h]
  simp only [Oper.upon, hd, Act.put]; exact hn

theorem setRow_size (w : World) (g : Nat) (cs : Array Value) : (w.setRow g cs).heap.size = w.heap.size := by simp [World.setRow]

theorem step_storeB {o : Oper} {t : TypeId} {p v : Operand} {sz root : Nat} {X Y : Opd} {e' : AV} {k : Env → Heap → Prop} {Q : Exit → Act → World → Prop} (ho : o.op = .store t p v) (hd : o.dst = none) (hs : tySize P t = some sz)
    (hx : opd B p = some X) (hy : opd B v = some Y) (hr : Rel B n F K μ β U env σ a w) (hv : storeB root (env root) sz (Y.ev env) (X.ev env) = some e') (hU : ∀ s, U s → U' s)
    (hk : k (upd env root e') σ) : o.wp P a w (Post B n F K μ w U' k) Q := by
  have h1 := opd_ev hx hr
  have h2 := opd_ev hy hr
  unfold storeB at hv
  split at hv
  · rename_i t' st off e1
    rw [e1] at h1
    split at hv
    · rename_i hc
      obtain ⟨rfl, hf, hlen⟩ := hc
      simp only [Option.bind_eq_some_iff, Option.map_eq_some_iff] at hv
      obtain ⟨e, he, e'', hsp, rfl⟩ := hv
      have hbx := boxOf_some he
      have hp := h1.2 e hbx
      have hval := hr.val t'
      rw [hbx] at hval
      obtain ⟨hUst, hptr, hfl, u, ty, hrv, hheap⟩ := hval
      have hrv2 := h2.of_flat hf
      have hcl := CL.of_rv hrv2 hf
      obtain ⟨u', r1, r2, r3, r4⟩ := setPart_rv hsp hrv hcl
      have hsz : (a.eval v).cells.size = sz := by have := hcl.1; simp at this; omega
      have hrun := run_storePart (P := P) (w := w) (t := t) (o := off) (v := a.eval v) (by rw [hsz]; exact hs) hheap (by simpa using r4) hcl.one
      have hu' : u'.cells = (over u.cells.toList off (a.eval v).cells.toList).toArray := by rw [← r3]
      rw [← hu'] at hrun
      have hkb : KB K env β (β t') := .inr ⟨t', st, e, hbx, rfl⟩
      have hnF : ¬ F (β t') := hr.inv.sep _ hkb
      have hnK : ¬ K (β t') := hr.kb t' st e hbx
      have hoth : ∀ j, j ≠ β t' → (w.setRow (β t') u'.cells).heap[j]? = w.heap[j]? := fun j hj => setRow_other w _ j _ hj
      have hext : ∀ K0 : Nat → Prop, (∀ j, K0 j → j ≠ β t') → Ext F K0 μ w F μ (w.setRow (β t') u'.cells) := fun K0 hK0 =>
        ⟨rfl, rfl, rfl, fun _ => Nat.le_refl _, by rw [setRow_size]; exact Nat.le_refl _, fun _ h => h, fun _ _ h => h, fun j hj => hoth j (fun ej => by subst ej; exact hj.elim hnF (fun h => hK0 _ h rfl))⟩
      refine wp_skip' hd (w' := w.setRow (β t') u'.cells) (by simp [execOp, ho, hp, Instr.storeAt, Instr.sureAddr, hrun]) ⟨F, μ, β, _, σ, hk, ?_, hext K (fun j hj ej => by subst ej; exact hnK hj)⟩
      have hbox : ∀ s st' e0, (upd env t' (.box st e'')) s = .box st' e0 → (s = t' ∧ st' = st ∧ e0 = e'') ∨ (s ≠ t' ∧ env s = .box st' e0) := by
        intro s st' e0 h
        by_cases hst : s = t'
        · subst hst; simp at h; exact .inl ⟨rfl, h.1.symm, h.2.symm⟩
        · rw [upd_ne _ _ hst] at h; exact .inr ⟨hst, h⟩
      have hbx' : ∀ s st' e0, (upd env t' (.box st e'')) s = .box st' e0 → ∃ e1, env s = .box st' e1 := by
        intro s st' e0 h
        rcases hbox s st' e0 h with ⟨rfl, rfl, _⟩ | ⟨_, h⟩
        · exact ⟨e, hbx⟩
        · exact ⟨e0, h⟩
      have heK : Ext F (fun j => j ≠ β t' ∧ KB K env β j) μ w F μ (w.setRow (β t') u'.cells) := hext _ (fun j hj => hj.1)
      refine ⟨hr.size, hr.defers, fun s st' e0 h => let ⟨e1, h1⟩ := hbx' s st' e0 h; hr.nb s st' e1 h1, fun s => ?_, fun s s' st1 st2 e1 e2 g1 g2 g3 => ?_, fun s st' e0 h => let ⟨e1, h1⟩ := hbx' s st' e0 h; hr.kb s st' e1 h1, ?_⟩
      · by_cases hst : s = t'
        · subst hst
          rw [upd_same]
          exact ⟨hU _ hUst, hptr, r2, u', ty, r1.ext heK, setRow_heap w _ _ _ _ _ hheap⟩
        · rw [upd_ne _ _ hst]
          have hv := hr.val s
          cases hes : env s <;> rw [hes] at hv <;> first | exact RV.ext heK hv | skip
          · rename_i st' e0
            obtain ⟨g1, g2, g3, uu, ty', g4, g5⟩ := hv
            exact ⟨hU _ g1, g2, g3, uu, ty', g4.ext heK, (hoth _ (fun ej => hst (hr.dis s t' st' st e0 e hes hbx ej))).trans g5⟩
          · rename_i t2 st2 o2
            refine ⟨hU _ hv.1, fun e0 he0 => ?_⟩
            obtain ⟨e1, h1⟩ := hbx' t2 st2 e0 he0
            exact hv.2 e1 h1
      · obtain ⟨e3, h3⟩ := hbx' s st1 e1 g1
        obtain ⟨e4, h4⟩ := hbx' s' st2 e2 g2
        exact hr.dis s s' st1 st2 e3 e4 h3 h4 g3
      · have hKBi : ∀ j, KB K (upd env t' (.box st e'')) β j → KB K env β j := by
          rintro j (h | ⟨s, st', e0, h1, h2⟩)
          · exact .inl h
          · obtain ⟨e1, h3⟩ := hbx' s st' e0 h1
            exact .inr ⟨s, st', e1, h3, h2⟩
        refine Inv.monoK (K := KB K env β) ?_ hKBi
        have hi := hr.inv
        refine ⟨fun b ob hb => (hi.blk b ob hb).ext heK (fun sp hs => hoth _ (fun ej => (hi.nof b sp (by rw [hb]; simp) hs).2 (by rw [ej]; exact hkb))) id, hi.inj, hi.nof, hi.sep,
          fun j hj => by rw [setRow_size]; exact hi.bdF j hj, fun j hj => by rw [setRow_size]; exact hi.bdK j hj, hi.fin⟩
    · cases hv
  · cases hv

theorem step_storeH {o : Oper} {t : TypeId} {p v : Operand} {sz : Nat} {X Y : Opd} {k : Env → Heap → Prop} {Q : Exit → Act → World → Prop} (ho : o.op = .store t p v) (hd : o.dst = none) (hs : tySize P t = some sz)
    (hx : opd B p = some X) (hy : opd B v = some Y) (hr : Rel B n F K μ β U env σ a w) (hv : storeH σ sz (Y.ev env) (X.ev env) = some σ') (hU : ∀ s, U s → U' s)
    (hk : k env σ') : o.wp P a w (Post B n F K μ w U' k) Q := by
  have h1 := opd_ev hx hr
  have h2 := opd_ev hy hr
  generalize hxv : a.eval p = xv at h1
  unfold storeH at hv
  split at hv
  · rename_i b i off e1
    rw [e1] at h1
    simp only [Option.bind_eq_some_iff] at hv
    obtain ⟨row, hrow, e, he, hv⟩ := hv
    split at hv
    · rename_i hc
      obtain ⟨hf, hlen⟩ := hc
      simp only [Option.map_eq_some_iff] at hv
      obtain ⟨e', hsp, rfl⟩ := hv
      unfold rowOf at hrow
      split at hrow
      · rename_i szr es hσ
        cases hrow
        obtain ⟨hlt, rfl⟩ := List.getElem?_eq_some_iff.1 he
        cases h1 with
        | ptr _ _ _ sp hμ =>
          have hrv2 := h2.of_flat hf
          have hcl := CL.of_rv hrv2 hf
          have hsz : (a.eval v).cells.size = sz := by have := hcl.1; simp at this; omega
          rcases hr.inv.blk b _ hσ with ⟨h0, _⟩ | ⟨sp', arr, et, g1, g2, g3, g4, g5, g6, g7⟩
          · simp only at hlt; rw [h0] at hlt; simp at hlt
          · rw [hμ] at g1; cases g1
            have hsize : es.length * szr ≤ arr.size := by rw [g3, g4]; exact Nat.mul_le_mul_right _ g5
            obtain ⟨l1, l2⟩ := g7.set hlt hsp hcl hsize
            have hrun := run_storePart (P := P) (w := w) (t := t) (o := i * sp.sz + off) (v := a.eval v) (by rw [hsz]; exact hs) g2 (by rw [g4]; simpa using l2) hcl.one
            have hw := hr.inv.write (b := b) (sp := sp) (by rw [hσ]; simp) hμ (over arr.toList (i * sp.sz + off) (a.eval v).cells.toList).toArray (blk := .row szr (es.set i e'))
              (.inr ⟨sp, _, et, hμ, setRow_heap w _ _ _ _ _ g2, by rw [List.size_toArray, over_length (by rw [g4]; simpa using l2)]; simpa using g3, g4, by simpa using g5, g6, by
                have he := (hr.inv.write (b := b) (sp := sp) (by rw [hσ]; simp) hμ (over arr.toList (i * sp.sz + off) (a.eval v).cells.toList).toArray (blk := .row szr []) ?_).2
                · rw [g4] at he ⊢; exact l1.ext he
                · exact .inr ⟨sp, _, et, hμ, setRow_heap w _ _ _ _ _ g2, by rw [List.size_toArray, over_length (by rw [g4]; simpa using l2)]; simpa using g3, g4, by simp, g6, ⟨fun _ => undef, fun i hi => absurd hi (Nat.not_lt_zero _), fun i _ _ hi => absurd hi (Nat.not_lt_zero _), fun i hi => absurd hi (Nat.not_lt_zero _)⟩⟩⟩)
            exact wp_skip' hd (by simp [execOp, ho, hxv, Instr.storeAt, Instr.sureAddr, hrun]) ⟨F, μ, β, _, _, hk, (hr.ext hw.2 hw.1).monoU hU, hw.2.monoK fun _ h => .inl h⟩
      · cases hrow
    · cases hv
  · cases hv

end
end Go.Av

