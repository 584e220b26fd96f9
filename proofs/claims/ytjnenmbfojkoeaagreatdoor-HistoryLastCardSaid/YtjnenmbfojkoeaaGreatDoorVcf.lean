/- Part 6 of the proof: own lemmas, of no statement. -/
import Derived.Test.YtjnenmbfojkoeaaGreatDoorVce
import Derived.ProofKit
import Derived.OpenShut
set_option linter.unusedSimpArgs false
set_option linter.unusedVariables false
set_option linter.defProp false
namespace Go.Av
set_option linter.unusedVariables false
set_option linter.defProp false

theorem b_shr1 {a : Int} : binA .shr (.sc (.int .u64 a)) (.sc (.int .u64 1)) = some (.sc (.int .u64 (a / 2))) := by
  have h : a.fdiv 2 = a / 2 := Int.fdiv_eq_ediv_of_nonneg _ (by omega)
  simp [binA, binV, isSh, shOp, IntKind.bits, h]
theorem wr_u {a : Int} (h0 : 0 ≤ a) (h1 : a ≤ 18446744073709551615) : IntKind.u64.wrap a = a := by
  simp [IntKind.wrap, IntKind.bits, IntKind.signed]; omega
theorem half_n {i j : Nat} : ((i : Int) + j) / 2 = ((i + j) / 2 : Nat) := by omega

/-- How many elements stand ahead: the first ones of which something holds. -/
def lowB {α : Type} (p : α → Bool) (l : List α) : Nat := (l.takeWhile p).length
theorem lowB_le {α : Type} {p : α → Bool} : ∀ {l : List α}, lowB p l ≤ l.length
  | [] => by simp [lowB]
  | x :: l => by
    have := lowB_le (p := p) (l := l)
    simp only [lowB, List.takeWhile_cons] at *
    split <;> simp <;> omega
theorem lowB_lt {α : Type} {p : α → Bool} : ∀ {l : List α} {i : Nat} (hi : i < l.length), i < lowB p l → p l[i] = true
  | x :: l, i, hi, h => by
    simp only [lowB, List.takeWhile_cons] at h
    split at h
    · rename_i hx
      cases i with
      | zero => exact hx
      | succ i => exact lowB_lt (l := l) (by simpa using hi) (by simpa [lowB] using h)
    · simp at h
theorem lowB_at {α : Type} {p : α → Bool} : ∀ {l : List α} (hi : lowB p l < l.length), p (l[lowB p l]'hi) = false
  | [], hi => by simp at hi
  | x :: l, hi => by
    by_cases hx : p x = true
    · have hs : lowB p (x :: l) = lowB p l + 1 := by simp [lowB, List.takeWhile_cons, hx]
      have := lowB_at (p := p) (l := l) (by rw [hs] at hi; simpa using hi)
      simp only [hs, List.getElem_cons_succ]; exact this
    · have hs : lowB p (x :: l) = 0 := by simp [lowB, List.takeWhile_cons, hx]
      simp only [hs, List.getElem_cons_zero]; simpa using hx
/-- What holds of one holds of those ahead of it. -/
def Down {α : Type} (p : α → Bool) (l : List α) : Prop := ∀ i j (hi : i < l.length) (hj : j < l.length), i ≤ j → p l[j] = true → p l[i] = true
theorem lowB_ge {α : Type} {p : α → Bool} {l : List α} (hd : Down p l) {i : Nat} (hi : i < l.length) (h : p l[i] = true) : i < lowB p l := by
  by_cases hk : i < lowB p l
  · exact hk
  · have hkl : lowB p l < l.length := by omega
    have := lowB_at hkl
    rw [hd _ i hkl hi (by omega) h] at this
    cases this
def QG := And.intro @b_shr1 <| And.intro @wr_u <| And.intro @half_n <| And.intro @cvi_ <| @ia_p
end Go.Av

namespace Go.Av
set_option linter.unusedVariables false
set_option linter.defProp false

theorem bu_u1 {d : Dot} : buildA (.agg [.int 0, .int 0, .int 0]) [(0, 2, encDot d)] = some (encUndo ⟨d, 0⟩) := rfl
theorem bu_r6 {d : Dot} {u t n : Int} {c f : Bool} : buildA (encRow ⟨⟨0, 0⟩, 0, 0, 0, 0, false, false⟩) [(0, 2, encDot d), (2, 1, .int u), (3, 1, .int t), (5, 1, .int n), (6, 1, .bool c), (7, 1, .bool f)] = some (encRow ⟨d, u, t, 0, n, c, f⟩) := rfl
theorem zr_row : AV.agg [.int 0, .int 0, .int 0, .int 0, .int 0, .int 0, .bool false, .bool false] = encRow ⟨⟨0, 0⟩, 0, 0, 0, 0, false, false⟩ := rfl
theorem zr_op : AV.agg [.int 0, .nils, .int 0, .int 0, .str ⟨#[]⟩, .int 0, .nils] = .agg [.int 0, .nils, .int 0, .int 0, .str ⟨#[]⟩, .int 0, .nils] := rfl
theorem b_rem2 {kk : IntKind} {a : Int} : binA .rem (.sc (.int kk a)) (.sc (.int kk 2)) = some (.sc (.int kk (a.tmod 2))) := b4 (by decide)
theorem sA_Dot {x : Dot} {a b : AV} : AV.setPart 0 (encDot x).cells (.agg [a, b]) = some (encDot x) := rfl
theorem sA_Undo {x : Undo} {a b c : AV} : AV.setPart 0 (encUndo x).cells (.agg [a, b, c]) = some (encUndo x) := rfl
theorem sA_Val {x : Val} {a b c : AV} : AV.setPart 0 (encVal x).cells (.agg [a, b, c]) = some (encVal x) := rfl
theorem sA_Ref {x : Ref} {a b c : AV} : AV.setPart 0 (encRef x).cells (.agg [a, b, c]) = some (encRef x) := rfl
theorem sA_Opn {x : Opn} {a b c d e f g : AV} : AV.setPart 0 (encOpn x).cells (.agg [a, b, c, d, e, f, g]) = some (encOpn x) := rfl
theorem sA_Txn {x : Txn} {a b c d e f : AV} : AV.setPart 0 (encTxn x).cells (.agg [a, b, c, d, e, f]) = some (encTxn x) := rfl
theorem sA_Row {x : Row} {a b c d e f g h : AV} : AV.setPart 0 (encRow x).cells (.agg [a, b, c, d, e, f, g, h]) = some (encRow x) := rfl
theorem sA_Delta {x : Delta} {a b c : AV} : AV.setPart 0 (encDelta x).cells (.agg [a, b, c]) = some (encDelta x) := rfl
def QH := And.intro @sA_Dot <| And.intro @sA_Undo <| And.intro @sA_Val <| And.intro @sA_Ref <| And.intro @sA_Opn <| And.intro @sA_Txn <| And.intro @sA_Row <| And.intro @sA_Delta <| And.intro @bu_u1 <| And.intro @zr_row <| And.intro @b_rem2 <| @bu_r6

/-! ### Orders -/
def dlt (a b : Dot) : Prop := a.R < b.R ∨ a.R = b.R ∧ a.N < b.N
theorem cmpI_lt {a b : Int} : cmpI a b < 0 ↔ a < b := by
  unfold cmpI; repeat' split
  all_goals omega
theorem cmpI_eq {a b : Int} : cmpI a b = 0 ↔ a = b := by
  unfold cmpI; repeat' split
  all_goals omega
theorem cmpDot_lt {a b : Dot} : cmpDot a b < 0 ↔ dlt a b := by
  unfold cmpDot cmpI dlt; repeat' split
  all_goals omega
theorem cmpDot_m1 {a b : Dot} : cmpDot a b = -1 ↔ dlt a b := by
  unfold cmpDot cmpI dlt; repeat' split
  all_goals omega
theorem cmpDot_eq {a b : Dot} : cmpDot a b = 0 ↔ a = b := by
  rw [Dot.ext_iff]
  unfold cmpDot cmpI; repeat' split
  all_goals omega
theorem cmpDot_swap {a b : Dot} : cmpDot a b = - cmpDot b a := by
  unfold cmpDot cmpI; repeat' split
  all_goals omega
theorem dlt_trans {a b c : Dot} (h : dlt a b) (k : dlt b c) : dlt a c := by unfold dlt at *; omega
theorem dlt_irr {a : Dot} : ¬ dlt a a := by unfold dlt; omega
theorem dlt_or {a b : Dot} : dlt a b ∨ a = b ∨ dlt b a := by rw [Dot.ext_iff]; unfold dlt; omega
theorem nbr_pw {α : Type} {f : α → α → Bool} (ht : ∀ a b c, f a b = true → f b c = true → f a c = true) : ∀ {l : List α}, nbr f l = true → l.Pairwise fun a b => f a b = true
  | [], _ => .nil
  | [a], _ => by simp
  | a :: b :: l, h => by
    simp only [nbr, Bool.and_eq_true] at h
    have ih := nbr_pw ht (l := b :: l) h.2
    refine List.pairwise_cons.2 ⟨fun x hx => ?_, ih⟩
    rcases List.mem_cons.1 hx with rfl | hx
    · exact h.1
    · exact ht _ _ _ h.1 ((List.pairwise_cons.1 ih).1 x hx)
theorem dl_tr {α : Type} (g : α → Dot) (a b c : α) (h : decide (cmpDot (g a) (g b) = -1) = true) (k : decide (cmpDot (g b) (g c) = -1) = true) : decide (cmpDot (g a) (g c) = -1) = true := by
  simp only [decide_eq_true_eq, cmpDot_m1] at *; exact dlt_trans h k
theorem pw_dlt {α : Type} {g : α → Dot} {l : List α} (h : nbr (fun a b => decide (cmpDot (g a) (g b) = -1)) l = true) : l.Pairwise fun a b => dlt (g a) (g b) :=
  (nbr_pw (dl_tr g) h).imp fun h => cmpDot_m1.1 (by simpa using h)
/-- Of a list that rises those ahead of a dot come first. -/
theorem down_dlt {α : Type} {g : α → Dot} {l : List α} (h : l.Pairwise fun a b => dlt (g a) (g b)) (d : Dot) : Down (fun y => decide (cmpDot (g y) d < 0)) l := by
  intro i j hi hj hij hp
  simp only [decide_eq_true_eq, cmpDot_lt] at *
  rcases Nat.lt_or_eq_of_le hij with hlt | rfl
  · exact dlt_trans (List.pairwise_iff_getElem.1 h i j hi hj hlt) hp
  · exact hp
/-- What the binary search finds in such a list. -/
theorem found_dlt {α : Type} {g : α → Dot} {l : List α} (h : l.Pairwise fun a b => dlt (g a) (g b)) (d : Dot) :
    (if h : lowB (fun y => decide (cmpDot (g y) d < 0)) l < l.length then decide (cmpDot (g (l[lowB (fun y => decide (cmpDot (g y) d < 0)) l]'h)) d = 0) else false) = decide (∃ x ∈ l, g x = d) := by
  rw [Bool.eq_iff_iff, decide_eq_true_iff]
  constructor
  · intro hf
    split at hf
    · rename_i hlt
      simp only [decide_eq_true_eq, cmpDot_eq] at hf
      exact ⟨_, List.getElem_mem hlt, hf⟩
    · cases hf
  · rintro ⟨x, hx, hd⟩
    obtain ⟨i, hi, rfl⟩ := List.getElem_of_mem hx
    have hk : lowB (fun y => decide (cmpDot (g y) d < 0)) l = i := by
      have h1 : ¬ i < lowB (fun y => decide (cmpDot (g y) d < 0)) l := fun hlt => by
        have := lowB_lt hi hlt
        simp only [decide_eq_true_eq, cmpDot_lt] at this
        rw [hd] at this
        exact dlt_irr this
      have h2 : ¬ lowB (fun y => decide (cmpDot (g y) d < 0)) l < i := fun hlt => by
        have hkl : lowB (fun y => decide (cmpDot (g y) d < 0)) l < l.length := by omega
        have := lowB_at hkl
        simp only [decide_eq_false_iff_not, cmpDot_lt] at this
        have := List.pairwise_iff_getElem.1 h _ i hkl hi hlt
        rw [hd] at this
        contradiction
      omega
    rw [dif_pos (by omega)]
    simp only [decide_eq_true_eq, cmpDot_eq, hk, hd]
theorem at_dlt {l : List Undo} (h : l.Pairwise fun a b => dlt a.D b.D) (d : Dot) (hf : ∃ x ∈ l, x.D = d) : ∃ hlt : lowB (fun y : Undo => decide (cmpDot y.D d < 0)) l < l.length, (l[lowB (fun y : Undo => decide (cmpDot y.D d < 0)) l]).N = getU l d ∧ (l[lowB (fun y : Undo => decide (cmpDot y.D d < 0)) l]).D = d := by
  have := found_dlt (g := Undo.D) h d
  rw [decide_eq_true hf] at this
  split at this
  · rename_i hlt
    refine ⟨hlt, ?_⟩
    simp only [decide_eq_true_eq, cmpDot_eq] at this
    have hx := List.getElem_mem hlt
    generalize l[lowB (fun y : Undo => decide (cmpDot y.D d < 0)) l] = x at hx this
    refine ⟨?_, this⟩
    clear hlt hf
    induction l with
    | nil => simp at hx
    | cons u l ih =>
      rw [getU_cons]
      rcases List.mem_cons.1 hx with rfl | hx'
      · rw [if_pos this]
      · have hu := (List.pairwise_cons.1 h).1 x hx'
        rw [if_neg (fun e => by rw [e, this] at hu; exact dlt_irr hu)]
        exact ih (List.pairwise_cons.1 h).2 hx'
  · cases this
theorem getU_none {l : List Undo} {d : Dot} (h : ¬ ∃ x ∈ l, x.D = d) : getU l d = 0 := by
  induction l with
  | nil => rfl
  | cons u l ih =>
    rw [getU_cons, if_neg (fun e => h ⟨u, by simp, e⟩)]
    exact ih fun ⟨x, hx, hd⟩ => h ⟨x, by simp [hx], hd⟩
end Go.Av

namespace Go.Av
set_option linter.unusedVariables false

/-! Arguments that can be read as data: what they are, as abstract values. -/

section
variable {H : Type} {enc : TypeId × Value → H} {P : Program} {w : World}

def old (w : World) (k : Nat) : Prop := k < w.heap.size

def CellsR (w : World) (as : List AV) (cs : List Value) : Prop := RVs (old w) (fun _ => none) w as cs ∧ ∀ a ∈ as, a.one = true

def Reads (enc : TypeId × Value → H) (P : Program) (w : World) (t : TypeId) {α : Type} (f : α → List AV) (ok : α → Prop) : Prop :=
  ∀ fuel cs x, DataW.trod enc P w 0 (fun _ => true) true fuel t cs = some x → ∃ a, CellsR w (f a) cs ∧ ok a

theorem CellsR.single {a : AV} {v : Value} (h : RV (old w) (fun _ => none) w a v) (h1 : a.one = true) : CellsR w [a] [v] :=
  ⟨⟨rfl, fun i hi hj => by
    have : i = 0 := by simpa using hi
    subst this; exact h⟩, fun x hx => by simp at hx; subst hx; exact h1⟩

theorem rd_int {t : TypeId} (ht : P.underlying t = some (.int .i64)) : Reads enc P w t (fun n : Int => [AV.int n]) (fun n => -9223372036854775808 ≤ n ∧ n ≤ 9223372036854775807) := by
  intro fuel cs x h
  obtain ⟨n, rfl, _, hw⟩ := DataW.trod_int ht h
  refine ⟨n, .single (.sc _ rfl) rfl, ?_⟩
  simpa [Lit.wf, IntKind.min, IntKind.max, IntKind.signed, IntKind.bits] using hw

theorem rd_u8 {t : TypeId} (ht : P.underlying t = some (.int .u8)) : Reads enc P w t (fun n : Int => [AV.sc (.int .u8 n)]) (fun n => 0 ≤ n ∧ n ≤ 255) := by
  intro fuel cs x h
  obtain ⟨n, rfl, _, hw⟩ := DataW.trod_int ht h
  refine ⟨n, .single (.sc _ rfl) rfl, ?_⟩
  simpa [Lit.wf, IntKind.min, IntKind.max, IntKind.signed, IntKind.bits] using hw

theorem rd_bool {t : TypeId} (ht : P.underlying t = some .bool) : Reads enc P w t (fun b : Bool => [AV.bool b]) (fun _ => True) := by
  intro fuel cs x h
  obtain ⟨b, rfl, _⟩ := DataW.trod_bool ht h
  exact ⟨b, .single (.sc _ rfl) rfl, trivial⟩

theorem rd_str {t : TypeId} (ht : P.underlying t = some .string) : Reads enc P w t (fun s : ByteArray => [AV.str s]) (fun s => s.size ≤ 9223372036854775807) := by
  intro fuel cs x h
  obtain ⟨s, rfl, _, hs⟩ := DataW.trod_string ht h
  exact ⟨s, .single (.sc _ rfl) rfl, by simpa [maxLen] using hs⟩

theorem CellsR.nil : CellsR w [] [] := ⟨⟨rfl, fun i hi => by simp at hi⟩, fun _ h => by simp at h⟩
theorem CellsR.append {as bs : List AV} {cs ds : List Value} (h : CellsR w as cs) (k : CellsR w bs ds) : CellsR w (as ++ bs) (cs ++ ds) := by
  obtain ⟨⟨h1, h2⟩, h3⟩ := h
  obtain ⟨⟨k1, k2⟩, k3⟩ := k
  refine ⟨⟨by simp [h1, k1], fun i hi hj => ?_⟩, fun a ha => (List.mem_append.1 ha).elim (h3 a) (k3 a)⟩
  by_cases hlt : i < as.length
  · rw [List.getElem_append_left hlt, List.getElem_append_left (by omega)]; exact h2 i hlt (by omega)
  · rw [List.getElem_append_right (by omega), List.getElem_append_right (by omega)]
    have := k2 (i - as.length) (by simp at hi; omega) (by simp at hj; omega)
    simpa [h1] using this

/-- A struct's cells, field behind field. -/
theorem fs_cons {as bs : List AV} {cs : List Value} {o sz : Nat} (h : CellsR w as ((cs.drop o).take sz)) (k : CellsR w bs (cs.drop (o + sz))) : CellsR w (as ++ bs) (cs.drop o) := by
  have := h.append k
  rwa [← List.drop_drop, List.take_append_drop] at this
theorem fs_end {cs : List Value} {o : Nat} (h : cs.length = o) : CellsR w [] (cs.drop o) := by
  rw [List.drop_eq_nil_of_le (by omega)]; exact .nil

theorem RV.agg_of {as : List AV} {cs : List Value} (h : CellsR w as cs) : RV (old w) (fun _ => none) w (.agg as) (.agg cs.toArray) :=
  .agg as cs h.1.1 (fun i hi => h.2 _ (List.getElem_mem hi)) h.1.2

theorem exists_list {α : Type} {Q : Nat → α → Prop} : ∀ (n : Nat), (∀ i, i < n → ∃ a, Q i a) → ∃ l : List α, l.length = n ∧ ∀ i (hi : i < l.length), Q i l[i]
  | 0, _ => ⟨[], rfl, fun i hi => by simp at hi⟩
  | n + 1, h => by
    obtain ⟨l, hl, hq⟩ := exists_list n fun i hi => h i (by omega)
    obtain ⟨a, ha⟩ := h n (by omega)
    refine ⟨l ++ [a], by simp [hl], fun i hi => ?_⟩
    by_cases hlt : i < l.length
    · rw [List.getElem_append_left hlt]; exact hq i hlt
    · have : i = n := by simp at hi; omega
      subst this
      rw [List.getElem_append_right (by omega)]
      simpa using ha

theorem one_cells1 {v : Value} (h : v.oneCell' = true) : v.cells = #[v] := by cases v <;> simp [Value.oneCell'] at h <;> rfl

/-- A slice: of elements that are aggregates, or one cell. -/
theorem rd_slice {t e : TypeId} {α : Type} {f : α → List AV} {ok : α → Prop} (sz : Nat) (h0 : 0 < sz) (g : α → AV) (hg : (∀ a, g a = .agg (f a)) ∨ (∀ a, f a = [g a] ∧ (g a).one = true)) (ht : P.underlying t = some (.slice e)) (hsz : P.cellsOf e = sz) (he : Reads enc P w e f ok) :
    Reads enc P w t (fun l : List α => [encL sz g l]) (fun l => l.length ≤ 9223372036854775807 ∧ ∀ a ∈ l, ok a) := by
  intro fuel cs x h
  rcases DataW.trod_slice ht h with ⟨rfl, _⟩ | ⟨a, len, cap, elems, rest, n, _, rfl, _, _, hlc, hcm, hel, hall, _, _⟩
  · exact ⟨[], .single (.lstE _ _ _) rfl, by simp, by simp⟩
  · by_cases hl0 : len = 0
    · subst hl0
      exact ⟨[], .single (.lstE _ _ _) rfl, by simp, by simp⟩
    have hx : ∀ i, i < len → ∃ z, ok z ∧ ∃ v : Value, RV (old w) (fun _ => none) w (g z) v ∧ v.cells.size = sz ∧ (g z).flat = true ∧ ∀ j, j < sz → w.cell? ((a.add (i * sz)).add j) = v.cells[j]? := by
      intro i hi
      have hi' := hall i hi
      rw [List.getElem?_eq_getElem (by omega)] at hi'
      simp only [Option.bind_eq_some_iff] at hi'
      obtain ⟨cs', hc, htr⟩ := hi'
      obtain ⟨z, hz, hok⟩ := he _ _ _ htr
      rw [hsz] at hc
      obtain ⟨_, hlen, hget⟩ := World.cells?_some hc
      rcases hg with hg | hg
      · refine ⟨z, hok, .agg cs'.toArray, by rw [hg]; exact .agg_of hz, by simpa [Value.cells] using hlen, by rw [hg]; rfl, fun j hj => ?_⟩
        rw [hget j hj]; simp [Value.cells]
      · obtain ⟨h1, h2⟩ := hg z
        have hl1 := hz.1.1
        rw [h1] at hl1 hz
        obtain ⟨v, rfl⟩ := List.length_eq_one_iff.1 hl1
        have hrv : RV (old w) (fun _ => none) w (g z) v := hz.1.2 0 (by simp) (by simp)
        have h1c := hrv.oneCell h2
        refine ⟨z, hok, v, hrv, by rw [one_cells1 h1c]; exact hlen, AV.one_flat h2, fun j hj => ?_⟩
        rw [hget j hj, one_cells1 h1c]; simp
    obtain ⟨l, hl, hq⟩ := exists_list len hx
    have hv : ∀ i, ∃ v : Value, ∀ hi : i < l.length, RV (old w) (fun _ => none) w (g l[i]) v ∧ v.cells.size = sz ∧ (g l[i]).flat = true ∧ ∀ j, j < sz → w.cell? ((a.add (i * sz)).add j) = v.cells[j]? := by
      intro i
      by_cases hi : i < l.length
      · obtain ⟨_, v, h⟩ := hq i hi; exact ⟨v, fun _ => h⟩
      · exact ⟨undef, fun h => absurd h hi⟩
    obtain ⟨vs, hvs⟩ := Classical.axiomOfChoice hv
    refine ⟨l, .single ?_ rfl, by simp only [maxLen] at hcm; omega, fun z hz => ?_⟩
    · have hz0 := (hvs 0 (by omega)).2.2.2 0 h0
      have h00 : (vs 0).cells[0]? ≠ none := by
        have := (hvs 0 (by omega)).2.1
        rw [Array.getElem?_eq_getElem (by omega)]; simp
      obtain ⟨k, o, spot⟩ := a
      cases spot with
      | some sp =>
        exfalso
        apply h00
        rw [← hz0]
        simp only [Nat.zero_mul, Addr.add, if_true, World.cell?]
        cases w.heap[k]? with
        | none => rfl
        | some ob => cases ob <;> rfl
      | none =>
        have hk : k < w.heap.size := by
          rw [Addr.add_none, Addr.add_none] at hz0
          cases hh : w.heap[k]? with
          | none => simp [World.cell?, hh] at hz0; exact absurd hz0.symm (by simpa using h00)
          | some ob => exact (Array.getElem?_eq_some_iff.1 hh).1
        have := RV.lst (F := old w) (μ := fun _ => none) (w := w) sz (l.map g) k o cap vs hk (by simp; omega) (fun x hx => by
            obtain ⟨z, hz, rfl⟩ := List.mem_map.1 hx
            obtain ⟨i, hi, rfl⟩ := List.mem_iff_getElem.1 hz
            exact (hvs i hi).2.2.1) (fun i hi => (hvs i (by simpa using hi)).2.1) (fun i j c hi hj => by
            have hi' : i < l.length := by simpa using hi
            have hjs : j < sz := by rw [← (hvs i hi').2.1]; exact (Array.getElem?_eq_some_iff.1 hj).1
            have := (hvs i hi').2.2.2 j hjs
            rw [Addr.add_none, Addr.add_none, Nat.add_assoc] at this
            rw [this, hj]) (fun i hi => by
            have hi' : i < l.length := by simpa using hi
            rw [List.getElem_map]
            exact (hvs i hi').1)
        simpa [encL, hl] using this
    · obtain ⟨i, hi, rfl⟩ := List.mem_iff_getElem.1 hz
      exact (hq i hi).1

/-- An array of numbers, of lists: cell by cell. -/
theorem rd_array {t e : TypeId} {α : Type} {f : α → AV} {ok : α → Prop} (n : Nat) (ht : P.underlying t = some (.array n e)) (hsz : P.cellsOf e = 1) (hn : P.cellsOf t = n) (he : Reads enc P w e (fun a => [f a]) ok) :
    Reads enc P w t (fun l : List α => l.map f) (fun l => l.length = n ∧ ∀ a ∈ l, ok a) := by
  intro fuel cs x h
  obtain ⟨xs, m, _, _, hlen, hxl, hall⟩ := DataW.trod_array ht h
  rw [hn] at hlen
  have hx : ∀ i, i < n → ∃ z, ok z ∧ ∀ v, cs[i]? = some v → RV (old w) (fun _ => none) w (f z) v ∧ (f z).one = true := by
    intro i hi
    have hi' := hall i hi
    rw [List.getElem?_eq_getElem (by omega)] at hi'
    obtain ⟨z, hz, hok⟩ := he _ _ _ hi'
    refine ⟨z, hok, fun v hv => ?_⟩
    rw [hsz, Nat.mul_one] at hz
    have hd : (cs.drop i).take 1 = [v] := by
      obtain ⟨hlt, rfl⟩ := List.getElem?_eq_some_iff.1 hv
      rw [List.drop_eq_getElem_cons hlt]; rfl
    rw [hd] at hz
    exact ⟨hz.1.2 0 (by simp) (by simp), hz.2 _ (by simp)⟩
  obtain ⟨l, hl, hq⟩ := exists_list n hx
  refine ⟨l, ⟨⟨by simp [hl, hlen], fun i hi hj => ?_⟩, fun a ha => ?_⟩, hl, fun a ha => ?_⟩
  · rw [List.getElem_map]
    exact ((hq i (by simpa using hi)).2 _ (List.getElem?_eq_getElem hj)).1
  · obtain ⟨z, hz, rfl⟩ := List.mem_map.1 ha
    obtain ⟨i, hi, rfl⟩ := List.mem_iff_getElem.1 hz
    exact ((hq i hi).2 _ (List.getElem?_eq_getElem (by omega))).2
  · obtain ⟨i, hi, rfl⟩ := List.mem_iff_getElem.1 ha
    exact (hq i hi).1
end
end Go.Av

namespace Go.Av
set_option linter.unusedVariables false

/-! Whole structs laid over others. -/
section
variable {a b c d e f g h : AV}
theorem sw_Dot (x : Dot) : AV.setPart 0 (encDot x).cells (.agg [a, b]) = some (encDot x) := rfl
theorem sw_Undo (x : Undo) : AV.setPart 0 (encUndo x).cells (.agg [a, b, c]) = some (encUndo x) := rfl
theorem sw_Ref (x : Ref) : AV.setPart 0 (encRef x).cells (.agg [a, b, c]) = some (encRef x) := rfl
theorem sw_Val (x : Val) : AV.setPart 0 (encVal x).cells (.agg [a, b, c]) = some (encVal x) := rfl
theorem sw_Txn (x : Txn) : AV.setPart 0 (encTxn x).cells (.agg [a, b, c, d, e, f]) = some (encTxn x) := rfl
theorem sw_Opn (x : Opn) : AV.setPart 0 (encOpn x).cells (.agg [a, b, c, d, e, f, g]) = some (encOpn x) := rfl
theorem sw_Row (x : Row) : AV.setPart 0 (encRow x).cells (.agg [a, b, c, d, e, f, g, h]) = some (encRow x) := rfl
end
def QI := And.intro @sw_Dot <| And.intro @sw_Undo <| And.intro @sw_Ref <| And.intro @sw_Val <| And.intro @sw_Txn <| And.intro @sw_Opn @sw_Row

section
variable {σ : Heap}
theorem app_rowN {sz bytes c n : Nat} {es xs : List AV} {src : AV} {k : AV → Heap → Prop} {l : Lock (upd σ c (some (.row sz es)))} {l' : Lock k} (hn : es.length = n) (hc : σ c = none)
    (hx : appSrc (upd σ c (some (.row sz es))) sz src = some xs) (hb : (es.length + xs.length) * bytes ≤ 140737488355328) (hm : es.length + xs.length ≤ 140737488355328)
    (hk : ∀ c', σ c' = none → k (.row sz c' 0 (n + xs.length)) (upd σ c' (some (.row sz (es ++ xs))))) : AppK sz bytes (.row sz c 0 n) src (upd σ c (some (.row sz es))) k l l' := by
  subst hn
  exact app_row hc hx hb hm fun c' hc' => by rw [List.length_append]; exact hk c' hc'

theorem agree_put {W : List Nat} {e e1 : Env} {t : Nat} {v : AV} (ht : t ∈ W) (h : agree W e e1) : agree W e (putE e1 (some t) v) := fun j hj => by
  have : j ≠ t := fun ej => hj (by rw [ej]; exact ht)
  rw [putE_some, upd_ne _ _ this]; exact h j hj
theorem bu_rr {x : Row} {d : Dot} {u t : Int} : buildA (encRow x) [(0, 2, encDot d), (2, 1, .int u), (3, 1, .int t)] = some (encRow { x with D := d, User := u, Time := t }) := rfl
theorem one_ptr {b i o : Nat} : (AV.ptr b i o).one = true := rfl
theorem cl_int {n : Int} : (AV.int n).cells.length = 1 := rfl
theorem ia_row {sz b n i : Nat} (h : i < n) : iaddrSA sz (i : Int) (.row sz b 0 n) = some (.ptr b i 0) := by
  have h1 : (0 : Int) ≤ i := by omega
  have h2 : (i : Int) < (n : Int) := by omega
  simp [iaddrSA, h1, h2]
theorem ia_rowm {sz b n i : Nat} (h0 : 0 < i) (h : i - 1 < n) : iaddrSA sz ((i : Int) - 1) (.row sz b 0 n) = some (.ptr b (i - 1) 0) := by
  rw [show ((i : Int) - 1) = ((i - 1 : Nat) : Int) by omega]; exact ia_row h
theorem ld_row {α : Type} {f : α → AV} {l : List α} {c sz i off sz' : Nat} {ag : Bool} (h : i < l.length) : loadA (upd σ c (some (.row sz (l.map f)))) sz' ag (.ptr c i off) = (f l[i]).part off sz' ag := by
  simp [loadA, rowOf, h]
theorem ld_row2 {α : Type} {f : α → AV} {l : List α} {c d sz i off sz' : Nat} {o : Blk} {ag : Bool} (hd : d ≠ c) (h : i < l.length) : loadA (upd (upd σ c (some (.row sz (l.map f)))) d (some o)) sz' ag (.ptr c i off) = (f l[i]).part off sz' ag := by
  simp [loadA, rowOf, h, upd_ne _ _ (Ne.symm hd)]
theorem st_txn {l : List Txn} {x : Txn} {c i : Nat} (h : i < l.length) : storeH (upd σ c (some (.row 6 (l.map encTxn)))) 6 (encTxn x) (.ptr c i 0) = some (upd σ c (some (.row 6 ((l.set i x).map encTxn)))) := by
  have h1 : (encTxn x).flat = true ∧ (encTxn x).cells.length = 6 := ⟨rfl, rfl⟩
  have h2 : ∀ y : Txn, (encTxn y).setPart 0 (encTxn x).cells = some (encTxn x) := fun y => rfl
  simp only [storeH, upd_same, rowOf, Option.bind_some, List.getElem?_map, List.getElem?_eq_getElem h, Option.map_some, if_pos h1, h2, upd_upd, List.map_set]

theorem CallG.atc {P : Program} {f : FuncId} {args caps : List AV} {r : AV} {k : AV → Heap → Prop} {l : Lock σ} {l' : Lock k} (h : PureAt P f (args ++ caps) σ r) (hk : k r σ) : CallK P (.clo f caps) args σ k l l' :=
  ⟨f, caps, args ++ caps, σ, fun v s => v = r ∧ s = σ, rfl, Gh.refl σ _, h, ⟨r, σ, rfl, rfl⟩, by rintro _ _ ⟨rfl, rfl⟩; exact hk⟩
theorem ld_one {c : Nat} {x : AV} {ag : Bool} {h : σ c = some (.row 1 [x])} : loadA σ 1 ag (.ptr c 0 0) = x.part 0 1 ag := by
  simp [loadA, rowOf, h]

/-- A loop that writes a row of one's own, in place. -/
theorem loop_c {P : Program} {a : ICode} {Q : IPost} {e : Env} {n : Nat} (c sz : Nat) (J : Nat → List AV → Env → Prop) (i0 : Nat) {es0 : List AV} (h0 : J i0 es0 e)
    (hs : ∀ i e1 n1 es, agree (written a) e e1 → J i es e1 →
      WpI P a (seqQ (fun e' _ s' => ∃ j es', j < i ∧ s' = upd σ c (some (.row sz es')) ∧ J j es' e') Q) e1 n1 (upd σ c (some (.row sz es)))) :
    LoopK P a Q e n (upd σ c (some (.row sz es0))) .mk .mk .mk .mk .mk := by
  refine loop_gh2 (fun k e1 s1 => ∃ es, s1 = upd σ c (some (.row sz es)) ∧ J k es e1) (fun M _ => ⟨e, _, i0, (GhE.refl e _).ghN M, agree.refl _ _, es0, rfl, h0⟩) ?_
  rintro k e1 n1 s1 ha ⟨es, rfl, hJ⟩
  refine (hs k e1 n1 es ha hJ).imp fun x e' n' s' h => ?_
  cases x with
  | exit i => exact h
  | ret => exact h
  | normal =>
    obtain ⟨j, es', g1, g2, g3⟩ := h
    exact ⟨j, g1, es', g2, g3⟩

/-- At the end a row of one's own is let go, and a block of one's own. -/
theorem ret_row2 {sz c b : Nat} {o : Blk} {es : List AV} {R : AV → Heap → Prop} {l : Lock (upd (upd σ b (some o)) c (some (.row sz es)))} {l' : Lock R} (hb : σ b = none) (hc : (upd σ b (some o)) c = none) (h : R (.lst sz es) σ) :
    RetK (some [.row sz c 0 es.length]) (upd (upd σ b (some o)) c (some (.row sz es))) R l l' := by
  refine RetG_frz (l := [.row sz c 0 es.length]) c (upd_same _ _ _) ?_
  rw [upd_back hc]
  refine RetG.drop hb (RetG.same ?_)
  simpa [frz, oneOrTup] using h
end
end Go.Av

namespace Go.Av
def QJ := And.intro @ia_row <| And.intro @ia_rowm <| And.intro @ld_row <| And.intro @ld_row2 <| And.intro @bu_rr <| And.intro @one_ptr <| And.intro @cl_int @st_txn
end Go.Av

namespace Go.Av
set_option linter.unusedVariables false

def iok (n : Int) : Prop := -9223372036854775808 ≤ n ∧ n ≤ 9223372036854775807
def wfDot (x : Dot) : Prop := iok x.R ∧ iok x.N
def wfUndo (x : Undo) : Prop := wfDot x.D ∧ iok x.N
def wfVal (x : Val) : Prop := iok x.Kind ∧ iok x.N ∧ x.S.size ≤ 9223372036854775807
def wfRef (x : Ref) : Prop := wfDot x.D ∧ iok x.I
def wfOpn (x : Opn) : Prop := iok x.Kind ∧ (x.Path.length ≤ 9223372036854775807 ∧ ∀ y ∈ x.Path, y.size ≤ 9223372036854775807) ∧ wfVal x.V ∧ iok x.N ∧ (x.Seen.length ≤ 9223372036854775807 ∧ ∀ y ∈ x.Seen, wfRef y)
def wfTxn (x : Txn) : Prop := wfDot x.D ∧ iok x.User ∧ iok x.Time ∧ True ∧ (x.Ops.length ≤ 9223372036854775807 ∧ ∀ y ∈ x.Ops, wfOpn y)
def wfDots (x : Dots) : Prop := (∀ y ∈ x.V.l, iok y) ∧ (x.More.length ≤ 9223372036854775807 ∧ ∀ y ∈ x.More, wfDot y)
def wfState (x : State) : Prop := (x.Txns.length ≤ 9223372036854775807 ∧ ∀ y ∈ x.Txns, wfTxn y) ∧ (x.Undos.length ≤ 9223372036854775807 ∧ ∀ y ∈ x.Undos, wfUndo y) ∧ wfDots x.Known ∧ wfDots x.Sealed ∧ (∀ z ∈ x.Redo.l, (z.length ≤ 9223372036854775807 ∧ ∀ y ∈ z, wfDot y))
def wfKnow (x : Know) : Prop := wfDots x.Known ∧ (x.Undos.length ≤ 9223372036854775807 ∧ ∀ y ∈ x.Undos, wfUndo y) ∧ wfDots x.Sealed
def wfDelta (x : Delta) : Prop := (x.Txns.length ≤ 9223372036854775807 ∧ ∀ y ∈ x.Txns, wfTxn y) ∧ (x.Undos.length ≤ 9223372036854775807 ∧ ∀ y ∈ x.Undos, wfUndo y) ∧ (x.Sealed.length ≤ 9223372036854775807 ∧ ∀ y ∈ x.Sealed, wfDot y)
def wfRecord (x : Record) : Prop := iok x.Kind ∧ wfTxn x.T ∧ iok x.User ∧ wfUndo x.U ∧ iok x.Back ∧ wfDelta x.D ∧ wfState x.S
def wfMsg (x : Msg) : Prop := iok x.Kind ∧ iok x.From ∧ iok x.To ∧ wfDelta x.D ∧ wfKnow x.K
def wfRow (x : Row) : Prop := wfDot x.D ∧ iok x.User ∧ iok x.Time ∧ iok x.Ops ∧ iok x.Turns ∧ True ∧ True
end Go.Av

