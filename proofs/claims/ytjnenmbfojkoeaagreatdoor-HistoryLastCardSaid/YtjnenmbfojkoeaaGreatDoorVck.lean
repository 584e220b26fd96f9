/- Part 11 of the proof: own lemmas, of no statement. -/
import Derived.Test.YtjnenmbfojkoeaaGreatDoorVcj
import Derived.WalkKit
import Derived.BigCall
import Derived.Test.YtjnenmbfojkoeaaGreatDoorVcd
import Derived.Test.YtjnenmbfojkoeaaGreatDoorVcf
import Derived.Lib.ItoaLen
set_option linter.unusedSimpArgs false
set_option linter.unusedVariables false
set_option linter.defProp false
namespace Go.Proofs
open Go.RowKit Go.Shelf

def textB {T : Type} (line : T → ByteArray) (l : List T) : List UInt8 := l.flatMap fun r => (line r).data.toList ++ [10]

theorem textB_take {T : Type} (line : T → ByteArray) (l : List T) (i : Nat) (r : T) (h : l[i]? = some r) : textB line (l.take (i + 1)) = textB line (l.take i) ++ ((line r).data.toList ++ [10]) := by
  have hi := (List.getElem?_eq_some_iff.1 h).1
  have hr := (List.getElem?_eq_some_iff.1 h).2
  rw [List.take_succ_eq_append_getElem hi, hr]
  simp [textB]

theorem textB_le {T : Type} (line : T → ByteArray) (l : List T) (i : Nat) : (textB line (l.take i)).length ≤ (textB line l).length := by
  conv => rhs; rw [← List.take_append_drop i l]
  simp only [textB, List.flatMap_append, List.length_append]
  omega

theorem isBuilder_keep {T e : TypeId} {B b : Nat} {bs : List Value} {w w' : World} (h : Lib.IsBuilder T e B b bs w) (hk : ∀ k, k < w.heap.size → w'.heap[k]? = w.heap[k]?) : Lib.IsBuilder T e B b bs w' := by
  have key : ∀ p, Lib.BuilderAt T e B b p bs w → Lib.BuilderAt T e B b p bs w' := by
    rintro p ⟨hB, v, hb, ⟨h1, h2⟩, hn⟩
    refine ⟨hB, v, (hk b (Array.getElem?_eq_some_iff.1 hb).1).trans hb, ⟨h1, ?_⟩, hn⟩
    rcases h2 with h2 | ⟨g, cap, cur, r1, r2, r3, r4⟩
    · exact .inl h2
    · exact .inr ⟨g, cap, cur, r1, r2, (hk g (Array.getElem?_eq_some_iff.1 r3).1).trans r3, r4⟩
  exact h.imp (key _) (key _)

set_option maxHeartbeats 4000000 in
set_option maxRecDepth 1000000 in
theorem text_walk {T : Type} (f : T → Nat → Int) (h : T → Nat → Bool) (line : T → ByteArray) (l : List T) (k o cap : Nat) (w : World)
    (hcells : ∀ i r, l[i]? = some r → (∀ j, j < 6 → w.cell? ⟨k, o + i * 8 + j, none⟩ = some (.int .i64 (f r j))) ∧ (∀ j, j < 2 → w.cell? ⟨k, o + i * 8 + (6 + j), none⟩ = some (.bool (h r j)))) (hk : k < w.heap.size)
    (hline : ∀ r ∈ l, ∀ w', Below w.heap.size w w' → Calls Tryz.prog 21 #[.agg #[.int .i64 (f r 0), .int .i64 (f r 1), .int .i64 (f r 2), .int .i64 (f r 3), .int .i64 (f r 4), .int .i64 (f r 5), .bool (h r 0), .bool (h r 1)]] w'
      fun e w'' => e = .returned (.string (line r)) ∧ Below w'.heap.size w' w'')
    (hlen : (textB line l).length ≤ 140737488355328) (hn : l.length ≤ 140737488355328) :
    Calls Tryz.prog 19 #[.slice (some ⟨k, o, none⟩) l.length cap] w fun e w' => e = .returned (.string ⟨(textB line l).toArray⟩) ∧ Below w.heap.size w w' := by
  have HC := Any.hidJ hcells
  have HL := Any.hidJ hline
  have Hlen := Any.hidJ hlen
  clear hcells hline hlen
  go_enter Tryz.func19, Tryz.ntmps19
  go_wp2_with fail
  go_loopw [8] (fun i wr => ∃ k : Nat, k ≤ l.length ∧ i = .int .i64 k ∧ Hid (Lib.IsBuilder 133 5 w.heap.size w.heap.size (Lib.byteCells (textB line (l.take k))) wr) ∧ Hid (Below w.heap.size w wr)) (fun i _ => l.length - (intOf i).toNat)
  case atStart => exact ⟨0, Nat.zero_le _, rfl, Lib.fresh_isBuilder 133 5 w, (Below.refl w.heap.size w).alloc (Nat.le_refl _) _⟩
  case round =>
    obtain ⟨i, hi, rfl, HB, HW⟩ := hrel
    by_cases hkr : i < l.length
    · obtain ⟨r, hr⟩ : ∃ r, l[i]? = some r := ⟨l[i], List.getElem?_eq_getElem hkr⟩
      have hc : ∀ j, j < 6 → wr.cell? ⟨k, o + i * 8 + j, none⟩ = some (.int .i64 (f r j)) := fun j hj => (HW.out.cell (p := ⟨k, o + i * 8 + j, none⟩) hk).trans ((HC.out i r hr).1 j hj)
      have hc' : ∀ j, j < 2 → wr.cell? ⟨k, o + i * 8 + (6 + j), none⟩ = some (.bool (h r j)) := fun j hj => (HW.out.cell (p := ⟨k, o + i * 8 + (6 + j), none⟩) hk).trans ((HC.out i r hr).2 j hj)
      have c0 := hc 0 (by omega); have c1 := hc 1 (by omega); have c2 := hc 2 (by omega); have c3 := hc 3 (by omega)
      have c4 := hc 4 (by omega); have c5 := hc 5 (by omega); have c6 := hc' 0 (by omega); have c7 := hc' 1 (by omega)
      rw [Nat.add_zero] at c0
      simp only [Nat.reduceAdd] at c6 c7
      have hsz : w.heap.size ≤ wr.heap.size := HW.out.size
      have HR := Any.hidJ hr
      clear hc hc' hr
      go_wp2_with fail
      have Hk := Any.hidJ (show ∀ k, k < wr.heap.size → (wr.alloc (.cells #[.int .i64 (f r 0), .int .i64 (f r 1), .int .i64 (f r 2), .int .i64 (f r 3), .int .i64 (f r 4), .int .i64 (f r 5), .bool (h r 0), .bool (h r 1)] 43)).heap[k]? = wr.heap[k]? from fun k hk => Below.heap_alloc _ _ _ hk)
      have HW1 := Any.hidJ (HW.out.alloc hsz (.cells #[.int .i64 (f r 0), .int .i64 (f r 1), .int .i64 (f r 2), .int .i64 (f r 3), .int .i64 (f r 4), .int .i64 (f r 5), .bool (h r 0), .bool (h r 1)] 43))
      have hsz1 : (wr.alloc (.cells #[.int .i64 (f r 0), .int .i64 (f r 1), .int .i64 (f r 2), .int .i64 (f r 3), .int .i64 (f r 4), .int .i64 (f r 5), .bool (h r 0), .bool (h r 1)] 43)).heap.size = wr.heap.size + 1 := by simp
      refine (HL.out r (List.mem_of_getElem? HR.out) _ HW1.out).mono ?_
      rintro e w1 ⟨rfl, hb1⟩
      have HB1 := Any.hidJ (isBuilder_keep (w' := w1) HB.out fun k hk => (hb1.block k (by omega)).trans (Hk.out k hk))
      have hszw : w.heap.size ≤ w1.heap.size := by have := hb1.size; omega
      have HW2 := Any.hidJ (HW1.out.trans (hb1.mono (by omega)))
      have hlen1 := textB_le line l (i + 1)
      rw [textB_take line l i r HR.out, List.length_append] at hlen1
      have hnext : Lib.byteCells (textB line (l.take i)) ++ Lib.strCells ((line r) ++ ⟨#[10]⟩) = Lib.byteCells (textB line (l.take (i + 1))) := by
        rw [textB_take line l i r HR.out, Lib.strCells_eq, Lib.byteCells_append]
        congr 1
      have HN := Any.hidJ hnext
      have hl2 : (textB line (l.take i)).length + ((line r) ++ ⟨#[10]⟩ : ByteArray).size ≤ 140737488355328 := by
        have h1 := Hlen.out
        rw [Lib.size_eq]
        simp at hlen1 ⊢
        omega
      have hl3 : ((line r) ++ ⟨#[10]⟩ : ByteArray).size = (line r).size + 1 := by simp; rfl
      clear hb1 hnext hlen1 c0 c1 c2 c3 c4 c5 c6 c7
      go_wp2_with fail
      · refine (Any.Builder_WriteString { Tryz.lays156 with } Tryz.Builder_Extra_156 w.heap.size w.heap.size _ _ w1 HB1.out (by rw [Lib.byteCells_length]; exact hl2) hszw).mono ?_
        rintro e w3 ⟨rfl, h3, hb3⟩
        rw [HN.out] at h3
        have H3 := Any.hidJ (Or.inr h3 : Lib.IsBuilder 133 5 w.heap.size w.heap.size _ w3)
        have Hb3 := Any.hidJ (HW2.out.trans hb3)
        clear h3 hb3
        go_wp2
        exact ⟨⟨i + 1, by omega, by go_num, H3, Hb3⟩, by simp [intOf]; omega⟩
    · have hke : i = l.length := by omega
      subst hke
      have hB' := HB.out
      rw [List.take_length] at hB'
      have hBw : w.heap.size ≤ wr.heap.size := HW.out.size
      go_wp2_with fail
      refine (Any.Builder_String_any { Tryz.lays156 with } Tryz.Builder_Extra_156 w.heap.size w.heap.size _ wr hB' hBw).mono ?_
      rintro e w5 ⟨rfl, hb5⟩
      have Hb5 := Any.hidJ (HW.out.trans hb5)
      clear hb5 hB'
      go_wp2
      go_ret
      exact ⟨rfl, Hb5.out⟩
set_option maxHeartbeats 4000000 in
set_option maxRecDepth 1000000 in
theorem text_walk0 (p : Option Addr) (cap : Nat) (w : World) :
    Calls Tryz.prog 19 #[.slice p 0 cap] w fun e w' => e = .returned (.string ⟨([] : List UInt8).toArray⟩) ∧ Below w.heap.size w w' := by
  go_enter Tryz.func19, Tryz.ntmps19
  go_wp2_with fail
  go_loopw [8] (fun i wr => i = .int .i64 0 ∧ Hid (Lib.IsBuilder 133 5 w.heap.size w.heap.size (Lib.byteCells []) wr) ∧ Hid (Below w.heap.size w wr)) (fun i _ => 0)
  case atStart => exact ⟨rfl, Lib.fresh_isBuilder 133 5 w, (Below.refl w.heap.size w).alloc (Nat.le_refl _) _⟩
  case round =>
    obtain ⟨rfl, HB, HW⟩ := hrel
    have hBw : w.heap.size ≤ wr.heap.size := HW.out.size
    go_wp2_with fail
    refine (Any.Builder_String_any { Tryz.lays156 with } Tryz.Builder_Extra_156 w.heap.size w.heap.size _ wr HB.out hBw).mono ?_
    rintro e w5 ⟨rfl, hb5⟩
    have Hb5 := Any.hidJ (HW.out.trans hb5)
    clear hb5
    go_wp2
    go_ret
    exact ⟨rfl, Hb5.out⟩
end Go.Proofs

namespace Go.Av
open Go.Shelf Go.RowKit Go.Lib Go.Sort Go.Proofs Go.Proofs.Tryz
set_option linter.unusedVariables false
set_option maxRecDepth 100000

section
variable {F K : Nat → Prop} {μ : Nat → Option Spot} {w w' : World} {σ : Heap}

def rowI (r : Row) (j : Nat) : Int := match j with
  | 0 => r.D.R | 1 => r.D.N | 2 => r.User | 3 => r.Time | 4 => r.Ops | _ => r.Turns
def rowT (r : Row) (j : Nat) : Bool := match j with
  | 0 => r.Counts | _ => r.Fixed
def rowV (r : Row) : Value := .agg #[.int .i64 r.D.R, .int .i64 r.D.N, .int .i64 r.User, .int .i64 r.Time, .int .i64 r.Ops, .int .i64 r.Turns, .bool r.Counts, .bool r.Fixed]

theorem rowV_inv {r : Row} {v : Value} (h : RV F μ w (encRow r) v) : v = rowV r := by
  unfold encRow at h
  cases h with
  | agg _ vs hl h1 h2 =>
    match vs, hl, h2 with
    | [v0, v1, v2, v3, v4, v5, v6, v7], _, h2 =>
      have e0 := sc_inv (h2 0 (by simp) (by simp))
      have e1 := sc_inv (h2 1 (by simp) (by simp))
      have e2 := sc_inv (h2 2 (by simp) (by simp))
      have e3 := sc_inv (h2 3 (by simp) (by simp))
      have e4 := sc_inv (h2 4 (by simp) (by simp))
      have e5 := sc_inv (h2 5 (by simp) (by simp))
      have e6 := sc_inv (h2 6 (by simp) (by simp))
      have e7 := sc_inv (h2 7 (by simp) (by simp))
      simp only [List.getElem_cons_succ, List.getElem_cons_zero] at e0 e1 e2 e3 e4 e5 e6 e7
      subst e0 e1 e2 e3 e4 e5 e6 e7
      rfl
theorem rowV_rv (r : Row) : RV F μ w (encRow r) (rowV r) := by
  refine .agg _ [.int .i64 r.D.R, .int .i64 r.D.N, .int .i64 r.User, .int .i64 r.Time, .int .i64 r.Ops, .int .i64 r.Turns, .bool r.Counts, .bool r.Fixed] rfl (fun i hi => ?_) (fun i hi hj => ?_)
  · match i, hi with
    | 0, _ | 1, _ | 2, _ | 3, _ | 4, _ | 5, _ | 6, _ | 7, _ => rfl
  · match i, hi, hj with
    | 0, _, _ | 1, _, _ | 2, _, _ | 3, _, _ | 4, _, _ | 5, _, _ | 6, _, _ | 7, _, _ => exact .sc _ rfl

theorem text_at {line : Row → ByteArray} {g : Nat} {cs : List Value} (hline : ∀ r : Row, (∀ j, iok (rowI r j)) → ∀ σ : Heap, σ 0 = some (.glob g cs) → PureAt prog 21 [encRow r] σ (.str (line r)))
    (l : List Row) (hok : ∀ r ∈ l, ∀ j, iok (rowI r j)) (h0 : σ 0 = some (.glob g cs)) (hlen : (textB line l).length ≤ 140737488355328) (hn : l.length ≤ 140737488355328) :
    PureAt prog 19 [encL 8 encRow l] σ (.str ⟨(textB line l).toArray⟩) := by
  refine at_below rfl (enters_of func19 (by kernel_rfl) rfl) h0 ?_
  rintro F K μ w vs hvs hinv ⟨e, fr, hg⟩
  obtain ⟨v, rfl, hv⟩ := RVs_one hvs
  have empty : l = [] → ∀ (p : Option Addr) (cap : Nat), Calls prog 19 #[.slice p 0 cap] w fun e w' => e = .returned (.string ⟨(textB line l).toArray⟩) ∧ Below w.heap.size w w' := by
    rintro rfl p cap
    exact text_walk0 p cap w
  have e21 : ∀ xs w, (callFunc 21 xs).run prog w = .ok (.enter 21 xs) w := enters_of func21 (by kernel_rfl) rfl
  generalize hes : l.map encRow = es at hv
  unfold encL at hv
  rw [hes] at hv
  cases hv with
  | lstE _ p cap => exact empty (by simpa using hes) p cap
  | lst _ _ k o cap vs hF hc hfl hs hcell hall =>
    have hle : es.length = l.length := by rw [← hes]; simp
    have hcell2 : ∀ i r, l[i]? = some r → ∀ j c, (rowV r).cells[j]? = some c → w.cell? ⟨k, o + i * 8 + j, none⟩ = some c := by
      intro i r hr j c hj
      have hi : i < l.length := (List.getElem?_eq_some_iff.1 hr).1
      have h1 := hall i (by omega)
      have h2 : es[i]'(by omega) = encRow r := by subst hes; rw [List.getElem_map, (List.getElem?_eq_some_iff.1 hr).2]
      rw [h2] at h1
      have h3 := rowV_inv h1
      have := hcell i j c (by omega) (by rw [h3]; exact hj)
      rw [Nat.add_assoc]; exact this
    have hw := text_walk rowI rowT line l k o cap w (fun i r hr => ⟨fun j hj => ?_, fun j hj => ?_⟩) (hinv.bdF k hF) (fun r hr w' hb => ?_) hlen hn
    · rw [hle]; exact hw
    · match j, hj with
      | 0, _ => exact hcell2 i r hr 0 _ rfl
      | 1, _ => exact hcell2 i r hr 1 _ rfl
      | 2, _ => exact hcell2 i r hr 2 _ rfl
      | 3, _ => exact hcell2 i r hr 3 _ rfl
      | 4, _ => exact hcell2 i r hr 4 _ rfl
      | 5, _ => exact hcell2 i r hr 5 _ rfl
    · match j, hj with
      | 0, _ => exact hcell2 i r hr 6 _ rfl
      | 1, _ => exact hcell2 i r hr 7 _ rfl
    · exact calls_of_at e21 ((hb.block g (Array.getElem?_eq_some_iff.1 hg).1).trans hg) (fun σ h => hline r (hok r hr) σ h) (rowV_rv r)
end
end Go.Av

namespace Go.Av
open Go.Proofs.Tryz
set_option maxRecDepth 100000
set_option linter.unusedSimpArgs false
set_option linter.unusedVariables false

/- dot.Text -/
def c86 : ICode :=
  .seq (.region 2 [⟨(some 1), .bbox 0 (.t 0), none⟩,
    ⟨(some 2), .mov (.c (.str ⟨#[]⟩)), none⟩]) <|
  .seq (.region 9 [⟨(some 3), .faddr (some 1) 0 (.b 1), none⟩,
    ⟨(some 4), .load (some 1) 1 false (.t 3), none⟩,
    ⟨(some 5), .call (.c (.clo 85 [])) [(.t 4)], none⟩,
    ⟨(some 6), .bin .add (.t 5) (.c (.str ⟨#[46]⟩)), none⟩,
    ⟨(some 7), .faddr (some 1) 1 (.b 1), none⟩,
    ⟨(some 8), .load (some 1) 1 false (.t 7), none⟩,
    ⟨(some 9), .call (.c (.clo 85 [])) [(.t 8)], none⟩,
    ⟨(some 10), .bin .add (.t 6) (.t 9), none⟩,
    ⟨(some 2), .mov (.t 10), none⟩]) <|
  .ret
def ir86 : IFn := ⟨11, [1], 1, [.tmp 2], c86⟩
theorem ok86 : compFn prog [1] [] f86 = some ir86 := by kernel_rfl
theorem wp86 {a0 : AV} {r : AV} (H : ∀ σ, WpI prog c86 (retQ [.tmp 2] fun v s => v = r ∧ s = σ) (argE [a0]) 0 σ) : Pure prog 86 [a0] r := @pure_of_wp prog hm 86 f86 [1] [] ir86 [a0] r func86 ok86 (Nat.le_of_ble_eq_true rfl) H
theorem wa86 {a0 : AV} {σ : Heap} {R : AV → Heap → Prop} (H : WpI prog c86 (retQ [.tmp 2] R) (argE [a0]) 0 σ) : CallsA prog 86 [a0] σ R := @callsA_of_wp prog [1] hm 86 f86 [] ir86 [a0] σ R func86 ok86 (Nat.le_of_ble_eq_true rfl) H
/- history.Line -/
def c21 : ICode :=
  .seq (.region 2 [⟨(some 1), .bbox 0 (.t 0), none⟩,
    ⟨(some 2), .mov (.c (.str ⟨#[]⟩)), none⟩]) <|
  .seq (.region 14 [⟨(some 4), .faddr (some 1) 3 (.b 1), none⟩,
    ⟨(some 5), .load (some 1) 1 false (.t 4), none⟩,
    ⟨(some 6), .call (.c (.clo 85 [])) [(.t 5)], none⟩,
    ⟨(some 7), .faddr (some 1) 0 (.b 1), none⟩,
    ⟨(some 8), .load (some 1) 2 true (.t 7), none⟩,
    ⟨(some 9), .call (.c (.clo 86 [])) [(.t 8)], none⟩,
    ⟨(some 10), .faddr (some 1) 2 (.b 1), none⟩,
    ⟨(some 11), .load (some 1) 1 false (.t 10), none⟩,
    ⟨(some 12), .call (.c (.clo 85 [])) [(.t 11)], none⟩,
    ⟨(some 13), .faddr (some 1) 4 (.b 1), none⟩,
    ⟨(some 14), .load (some 1) 1 false (.t 13), none⟩,
    ⟨(some 15), .call (.c (.clo 85 [])) [(.t 14)], none⟩,
    ⟨(some 16), .bsliceO 1 [(.t 6), (.t 9), (.c (.str ⟨#[117, 115, 101, 114]⟩)), (.t 12), (.c (.str ⟨#[111, 112, 115]⟩)), (.t 15)], none⟩,
    ⟨(some 3), .mov (.t 16), none⟩]) <|
  .seq (.block 0 (.seq (.region 8 [⟨(some 18), .faddr (some 1) 6 (.b 1), none⟩,
    ⟨(some 19), .load (some 1) 1 false (.t 18), none⟩,
    ⟨(some 20), .mov (.t 19), none⟩,
    ⟨(some 21), .faddr (some 1) 5 (.b 1), (some (20, true))⟩,
    ⟨(some 22), .load (some 1) 1 false (.t 21), (some (20, true))⟩,
    ⟨(some 23), .bin .gtr (.t 22) (.c (.int 0)), (some (20, true))⟩,
    ⟨(some 24), .pick (.t 20) (.t 23) (.c (.bool false)), none⟩,
    ⟨(some 17), .mov (.t 24), none⟩]) <|
  .cond (.t 17) (.region 7 [⟨(some 25), .mov (.t 3), none⟩,
    ⟨(some 26), .faddr (some 1) 5 (.b 1), none⟩,
    ⟨(some 27), .load (some 1) 1 false (.t 26), none⟩,
    ⟨(some 28), .call (.c (.clo 85 [])) [(.t 27)], none⟩,
    ⟨(some 29), .bslice 1 [(.c (.str ⟨#[114, 101, 100, 111, 110, 101]⟩)), (.t 28)], none⟩,
    ⟨(some 30), .app 1 16 (.t 25) (.t 29), none⟩,
    ⟨(some 3), .mov (.t 30), none⟩]) (.seq (.region 4 [⟨(some 32), .faddr (some 1) 6 (.b 1), none⟩,
    ⟨(some 33), .load (some 1) 1 false (.t 32), none⟩,
    ⟨(some 34), .un .not (.t 33), none⟩,
    ⟨(some 31), .mov (.t 34), none⟩]) <|
  .cond (.t 31) (.region 7 [⟨(some 35), .mov (.t 3), none⟩,
    ⟨(some 36), .faddr (some 1) 5 (.b 1), none⟩,
    ⟨(some 37), .load (some 1) 1 false (.t 36), none⟩,
    ⟨(some 38), .call (.c (.clo 85 [])) [(.t 37)], none⟩,
    ⟨(some 39), .bslice 1 [(.c (.str ⟨#[117, 110, 100, 111, 110, 101]⟩)), (.t 38)], none⟩,
    ⟨(some 40), .app 1 16 (.t 35) (.t 39), none⟩,
    ⟨(some 3), .mov (.t 40), none⟩]) (.skip)))) <|
  .seq (.seq (.region 2 [⟨(some 41), .faddr (some 1) 7 (.b 1), none⟩,
    ⟨(some 42), .load (some 1) 1 false (.t 41), none⟩]) <|
  .cond (.t 42) (.region 4 [⟨(some 43), .mov (.t 3), none⟩,
    ⟨(some 44), .bslice 1 [(.c (.str ⟨#[115, 101, 97, 108, 101, 100]⟩))], none⟩,
    ⟨(some 45), .app 1 16 (.t 43) (.t 44), none⟩,
    ⟨(some 3), .mov (.t 45), none⟩]) (.skip)) <|
  .seq (.region 3 [⟨(some 46), .mov (.t 3), none⟩,
    ⟨(some 47), .call (.c (.clo 87 [])) [(.t 46), (.c (.str ⟨#[32]⟩))], none⟩,
    ⟨(some 2), .mov (.t 47), none⟩]) <|
  .ret
def ir21 : IFn := ⟨48, [1], 1, [.tmp 2], c21⟩
theorem ok21 : compFn prog [1] [16] f21 = some ir21 := by kernel_rfl
theorem wp21 {a0 : AV} {r : AV} (H : ∀ σ, WpI prog c21 (retQ [.tmp 2] fun v s => v = r ∧ s = σ) (argE [a0]) 0 σ) : Pure prog 21 [a0] r := @pure_of_wp prog hm 21 f21 [1] [16] ir21 [a0] r func21 ok21 (Nat.le_of_ble_eq_true rfl) H
theorem wa21 {a0 : AV} {σ : Heap} {R : AV → Heap → Prop} (H : WpI prog c21 (retQ [.tmp 2] R) (argE [a0]) 0 σ) : CallsA prog 21 [a0] σ R := @callsA_of_wp prog [1] hm 21 f21 [16] ir21 [a0] σ R func21 ok21 (Nat.le_of_ble_eq_true rfl) H


theorem pow_g : prog.globalNamed itoaTab.1 = some 0 := by kernel_rfl

/-- The table that Itoa reads lies where it lay. -/
abbrev Tab (σ : Heap) : Prop := σ 0 = some (.glob 0 pow10V)

theorem k_itoa {σ : Heap} (h0 : Tab σ) {n : Int} (h : iok n) : PureAt prog 85 [.int n] σ (.str (itoaB n)) := itoa_at laysM171 pow_g h.1 h.2 h0
theorem k_join {σ : Heap} {xs : List ByteArray} {sep : ByteArray} {b : Nat} (h0 : Tab σ) (hb : σ b = some (.row 1 (xs.map .str)))
    (hN : xs.length ≤ 140737488355328) (hlen : (joinB xs sep).size ≤ 140737488355328) : PureAt prog 87 [.row 1 b 0 xs.length, .str sep] σ (.str (joinB xs sep)) := join_at lays156 Builder_Extra_156 h0 hb hN hlen

theorem itoaB_le {n : Int} (h : iok n) : (itoaB n).size ≤ 21 := Go.Lib.itoa_length_le n h.1 h.2
theorem app_le {a b : ByteArray} {n m : Nat} (h : a.size ≤ n) (k : b.size ≤ m) : (a ++ b).size ≤ n + m := by rw [ByteArray.size_append]; omega
theorem cat {x y : ByteArray} {n m : Nat} (hx : x.size ≤ n) (hy : y.size ≤ m) (h : n + m ≤ 9223372036854775807) : binA .add (.str x) (.str y) = some (.str (x ++ y)) := bd (by omega)
theorem lit_le (l : Array UInt8) : (⟨l⟩ : ByteArray).size ≤ l.size := Nat.le_refl _

def dotTextB (d : Dot) : ByteArray := itoaB d.R ++ ⟨#[46]⟩ ++ itoaB d.N

theorem k_dotText {σ : Heap} (h0 : Tab σ) (d : Dot) (h1 : iok d.R) (h2 : iok d.N) : PureAt prog 86 [encDot d] σ (.str (dotTextB d)) := by
  refine wa86 ?_
  unfold c86
  simp -dsimp (disch := first | omega | assumption) only [↓PB, ↓reduceIte, QB, QC, QD, QE, Nat.reduceAdd, Nat.reduceMul, Nat.reduceEqDiff, Nat.reduceLT, Nat.reduceLeDiff, reduceCtorEq, QF, QG, QH, QI]
  have e1 := cat (itoaB_le h1) (lit_le #[46]) (by decide)
  have e2 := cat (app_le (itoaB_le h1) (lit_le #[46])) (itoaB_le h2) (by decide)
  repeat' (first
    | (refine CallG.at (k_itoa h0 h1) ?_)
    | (refine CallG.at (k_itoa h0 h2) ?_)
    | (with_reducible refine condD (fun _ => ?_) (fun _ => ?_)) <;> try (exfalso; omega)
    | (with_reducible refine condB (fun _ => ?_) (fun _ => ?_))
    | (with_reducible refine guardD (fun _ => ?_) (fun _ => ?_)) <;> try (exfalso; omega)
    | (with_reducible refine guardB (fun _ => ?_) (fun _ => ?_))
    | (with_reducible refine app_row (by assumption) src_lst (by simp only [List.length_map, List.length_append, List.length_cons, List.length_nil]; omega) (by simp only [List.length_map, List.length_append, List.length_cons, List.length_nil]; omega) (fun _ _ => ?_))
    | (simp -dsimp (disch := first | omega | assumption) only [↓PB, ↓reduceIte, QB, QC, QD, QE, Nat.reduceAdd, Nat.reduceMul, Nat.reduceEqDiff, Nat.reduceLT, Nat.reduceLeDiff, reduceCtorEq, QF, QG, QH, QI, *]))
  exact RetG.same ⟨rfl, rfl⟩
def lineMid (r : Row) : List ByteArray := if r.Counts = true then (if r.Turns > 0 then [⟨#[114, 101, 100, 111, 110, 101]⟩, itoaB r.Turns] else []) else [⟨#[117, 110, 100, 111, 110, 101]⟩, itoaB r.Turns]
def lineHead (r : Row) : List ByteArray := [itoaB r.Time, dotTextB r.D, ⟨#[117, 115, 101, 114]⟩, itoaB r.User, ⟨#[111, 112, 115]⟩, itoaB r.Ops]
def lineEnd (r : Row) : List ByteArray := if r.Fixed = true then [⟨#[115, 101, 97, 108, 101, 100]⟩] else []
def lineB (r : Row) : ByteArray := joinB (lineHead r ++ lineMid r ++ lineEnd r) ⟨#[32]⟩

theorem k_joinN {σ : Heap} {xs : List ByteArray} {sep : ByteArray} {b n : Nat} (h0 : Tab σ) (hb : σ b = some (.row 1 (xs.map .str))) (hn : xs.length = n)
    (hlen : xs.length ≤ 140737488355328 ∧ (joinB xs sep).size ≤ 140737488355328) : PureAt prog 87 [.row 1 b 0 n, .str sep] σ (.str (joinB xs sep)) := by
  subst hn; exact k_join h0 hb hlen.1 hlen.2

structure RowOk (r : Row) : Prop where
  D1 : iok r.D.R
  D2 : iok r.D.N
  U : iok r.User
  T : iok r.Time
  O : iok r.Ops
  N : iok r.Turns

theorem joinB_le (xs : List ByteArray) (sep : ByteArray) (n : Nat) (h : ∀ x ∈ xs, x.size ≤ n) : (joinB xs sep).size ≤ (n + sep.size) * xs.length := by
  cases xs with
  | nil => simp [joinB, Go.Lib.join]; rfl
  | cons x r =>
    have h1 := Go.Lib.join_length x.data.toList (r.map (·.data.toList)) sep.data.toList
    have h2 : ∀ l : List ByteArray, (∀ x ∈ l, x.size ≤ n) → Go.Lib.lens (l.map (·.data.toList)) ≤ n * l.length := by
      intro l
      induction l with
      | nil => intro _; simp [Go.Lib.lens]
      | cons y l ih =>
        intro hy
        have := ih fun x hx => hy x (List.mem_cons_of_mem _ hx)
        have h3 : y.data.toList.length ≤ n := hy y (List.mem_cons_self)
        simp only [Go.Lib.lens, List.map_cons, List.sum_cons, List.length_cons, Nat.mul_add, Nat.mul_one] at this ⊢
        omega
    have h3 := h2 (x :: r) h
    have h4 : (joinB (x :: r) sep).size = (Go.Lib.join (x.data.toList :: r.map (·.data.toList)) sep.data.toList).length := by simp [joinB, ByteArray.size]
    rw [h4, h1]
    simp only [List.map_cons, List.length_map] at h3 ⊢
    rw [Nat.add_mul, List.length_cons]
    have h5 : sep.data.toList.length * r.length ≤ sep.size * (r.length + 1) := Nat.mul_le_mul (Nat.le_of_eq rfl) (by omega)
    rw [List.length_cons] at h3
    omega

theorem lineB_sz (r : Row) (h : RowOk r) : (lineHead r ++ lineMid r ++ lineEnd r).length ≤ 9 ∧ (lineB r).size ≤ 500 := by
  have hall : ∀ x ∈ lineHead r ++ lineMid r ++ lineEnd r, x.size ≤ 50 := by
    have h1 := itoaB_le h.T
    have h2 := itoaB_le h.U
    have h3 := itoaB_le h.O
    have h4 := itoaB_le h.N
    have h5 : (dotTextB r.D).size ≤ 43 := app_le (app_le (itoaB_le h.D1) (lit_le #[46])) (itoaB_le h.D2)
    have hl : ∀ l : Array UInt8, (⟨l⟩ : ByteArray).size = l.size := fun _ => rfl
    simp only [lineHead, lineMid, lineEnd]
    repeat' split
    all_goals simp only [List.mem_append, List.mem_cons, List.not_mem_nil, or_false, or_imp, forall_and, forall_eq, false_imp_iff, implies_true, and_true]
    all_goals repeat' apply And.intro
    all_goals first | omega | decide
  have hlen : (lineHead r ++ lineMid r ++ lineEnd r).length ≤ 9 := by
    simp only [lineHead, lineMid, lineEnd]; repeat' split
    all_goals simp
  refine ⟨hlen, ?_⟩
  have := joinB_le (lineHead r ++ lineMid r ++ lineEnd r) ⟨#[32]⟩ 50 hall
  have h1 : (⟨#[32]⟩ : ByteArray).size = 1 := rfl
  rw [h1] at this
  have h2 : (lineB r).size ≤ (50 + 1) * 9 := Nat.le_trans this (Nat.mul_le_mul_left _ hlen)
  omega

theorem lineB_le (r : Row) (h : RowOk r) : (lineHead r ++ lineMid r ++ lineEnd r).length ≤ 140737488355328 ∧ (lineB r).size ≤ 140737488355328 := by
  have := lineB_sz r h; omega

theorem k_historyLine {σ : Heap} (h0 : Tab σ) (r : Row) (h : RowOk r) : PureAt prog 21 [encRow r] σ (.str (lineB r)) := by
  refine wa21 ?_
  unfold c21
  simp -dsimp (disch := first | omega | assumption) only [↓PB, ↓reduceIte, QB, QC, QD, QE, Nat.reduceAdd, Nat.reduceMul, Nat.reduceEqDiff, Nat.reduceLT, Nat.reduceLeDiff, reduceCtorEq, QF, QG, QH, QI]
  repeat' (first
    | (refine CallG.at (k_itoa h0 h.T) ?_)
    | (refine CallG.at (k_itoa h0 h.U) ?_)
    | (refine CallG.at (k_itoa h0 h.O) ?_)
    | (refine CallG.at (k_dotText h0 r.D h.D1 h.D2) ?_)
    | (with_reducible refine condD (fun _ => ?_) (fun _ => ?_)) <;> try (exfalso; omega)
    | (with_reducible refine condB (fun _ => ?_) (fun _ => ?_))
    | (with_reducible refine guardD (fun _ => ?_) (fun _ => ?_)) <;> try (exfalso; omega)
    | (with_reducible refine guardB (fun _ => ?_) (fun _ => ?_))
    | (with_reducible refine app_row (by assumption) src_lst (by simp only [List.length_map, List.length_append, List.length_cons, List.length_nil]; omega) (by simp only [List.length_map, List.length_append, List.length_cons, List.length_nil]; omega) (fun _ _ => ?_))
    | (simp -dsimp (disch := first | omega | assumption) only [↓PB, ↓reduceIte, QB, QC, QD, QE, Nat.reduceAdd, Nat.reduceMul, Nat.reduceEqDiff, Nat.reduceLT, Nat.reduceLeDiff, reduceCtorEq, QF, QG, QH, QI, *]))
  refine ⟨rfl, ?_⟩
  intro c hc
  have hc0 : c ≠ 0 := fun e => by rw [e, h0] at hc; cases hc
  have hT : ∀ {c x}, σ c = none → Tab (upd σ c x) := fun {c x} hc => by unfold Tab; rw [upd_ne _ _ (fun e => by rw [← e, h0] at hc; cases hc)]; exact h0
  repeat' (first
    | (refine CallG.at (k_itoa (hT (by assumption)) h.N) ?_)
    | (with_reducible refine app_rowN rfl (by assumption) src_lst (by simp) (by simp) (fun _ _ => ?_))
    | (with_reducible refine condD (fun _ => ?_) (fun _ => ?_)) <;> try (exfalso; omega)
    | (with_reducible refine condB (fun _ => ?_) (fun _ => ?_))
    | (with_reducible refine guardD (fun _ => ?_) (fun _ => ?_)) <;> try (exfalso; omega)
    | (with_reducible refine guardB (fun _ => ?_) (fun _ => ?_))
    | (with_reducible refine app_row (by assumption) src_lst (by simp only [List.length_map, List.length_append, List.length_cons, List.length_nil]; omega) (by simp only [List.length_map, List.length_append, List.length_cons, List.length_nil]; omega) (fun _ _ => ?_))
    | (simp -dsimp (disch := first | omega | assumption) only [↓PB, ↓reduceIte, QB, QC, QD, QE, Nat.reduceAdd, Nat.reduceMul, Nat.reduceEqDiff, Nat.reduceLT, Nat.reduceLeDiff, reduceCtorEq, QF, QG, QH, QI, *]))
  all_goals refine CallG.at (k_joinN (xs := lineHead r ++ lineMid r ++ lineEnd r) (hT (by assumption)) (by rw [upd_same]; simp [lineHead, lineMid, lineEnd, *]) (by simp [lineHead, lineMid, lineEnd, *]) (lineB_le r h)) ?_
  all_goals (try simp -dsimp (disch := first | omega | assumption) only [↓PB, ↓reduceIte, QB, QC, QD, QE, Nat.reduceAdd, Nat.reduceMul, Nat.reduceEqDiff, Nat.reduceLT, Nat.reduceLeDiff, reduceCtorEq, QF, QG, QH, QI])
  all_goals exact RetG.drop (by assumption) (RetG.same ⟨rfl, rfl⟩)
end Go.Av

namespace Go.Av
open Go.Proofs.Tryz
set_option maxRecDepth 100000
set_option linter.unusedSimpArgs false
set_option linter.unusedVariables false

/- r04.Digits -/
def c88 : ICode :=
  .seq (.region 1 [⟨(some 2), .mov (.c (.str ⟨#[]⟩)), none⟩]) <|
  .seq (.seq (.region 2 [⟨(some 3), .mov (.t 0), none⟩,
    ⟨(some 4), .bin .lss (.t 3) (.c (.int 0)), none⟩]) <|
  .cond (.t 4) (.seq (.seq (.region 2 [⟨(some 5), .mov (.t 0), none⟩,
    ⟨(some 6), .bin .gtr (.t 5) (.c (.int (-10))), none⟩]) <|
  .cond (.t 6) (.seq (.region 5 [⟨(some 7), .mov (.t 0), none⟩,
    ⟨(some 8), .bin .sub (.c (.int 0)) (.t 7), none⟩,
    ⟨(some 9), .call (.c (.clo 88 [])) [(.t 8)], none⟩,
    ⟨(some 10), .bin .add (.c (.str ⟨#[45]⟩)) (.t 9), none⟩,
    ⟨(some 2), .mov (.t 10), none⟩]) <|
  .ret) (.skip)) <|
  .seq (.region 11 [⟨(some 11), .mov (.t 0), none⟩,
    ⟨(some 12), .bin .quo (.t 11) (.c (.int 10)), none⟩,
    ⟨(some 13), .bin .sub (.c (.int 0)) (.t 12), none⟩,
    ⟨(some 14), .call (.c (.clo 88 [])) [(.t 13)], none⟩,
    ⟨(some 15), .bin .add (.c (.str ⟨#[45]⟩)) (.t 14), none⟩,
    ⟨(some 16), .mov (.t 0), none⟩,
    ⟨(some 17), .bin .rem (.t 16) (.c (.int 10)), none⟩,
    ⟨(some 18), .bin .sub (.c (.int 0)) (.t 17), none⟩,
    ⟨(some 19), .call (.c (.clo 88 [])) [(.t 18)], none⟩,
    ⟨(some 20), .bin .add (.t 15) (.t 19), none⟩,
    ⟨(some 2), .mov (.t 20), none⟩]) <|
  .ret) (.skip)) <|
  .seq (.seq (.region 2 [⟨(some 21), .mov (.t 0), none⟩,
    ⟨(some 22), .bin .lss (.t 21) (.c (.int 10)), none⟩]) <|
  .cond (.t 22) (.seq (.region 5 [⟨(some 23), .mov (.t 0), none⟩,
    ⟨(some 24), .mov (.t 0), none⟩,
    ⟨(some 25), .bin .add (.t 24) (.c (.int 1)), none⟩,
    ⟨(some 26), .sslc (.c (.str ⟨#[48, 49, 50, 51, 52, 53, 54, 55, 56, 57]⟩)) (some (.t 23)) (some (.t 25)), none⟩,
    ⟨(some 2), .mov (.t 26), none⟩]) <|
  .ret) (.skip)) <|
  .seq (.region 11 [⟨(some 27), .mov (.t 0), none⟩,
    ⟨(some 28), .bin .quo (.t 27) (.c (.int 10)), none⟩,
    ⟨(some 29), .call (.c (.clo 88 [])) [(.t 28)], none⟩,
    ⟨(some 30), .mov (.t 0), none⟩,
    ⟨(some 31), .bin .rem (.t 30) (.c (.int 10)), none⟩,
    ⟨(some 32), .mov (.t 0), none⟩,
    ⟨(some 33), .bin .rem (.t 32) (.c (.int 10)), none⟩,
    ⟨(some 34), .bin .add (.t 33) (.c (.int 1)), none⟩,
    ⟨(some 35), .sslc (.c (.str ⟨#[48, 49, 50, 51, 52, 53, 54, 55, 56, 57]⟩)) (some (.t 31)) (some (.t 34)), none⟩,
    ⟨(some 36), .bin .add (.t 29) (.t 35), none⟩,
    ⟨(some 2), .mov (.t 36), none⟩]) <|
  .ret
def ir88 : IFn := ⟨37, [], 1, [.tmp 2], c88⟩
theorem ok88 : compFn prog [] [] f88 = some ir88 := by kernel_rfl
theorem wp88 {a0 : AV} {r : AV} (H : ∀ σ, WpI prog c88 (retQ [.tmp 2] fun v s => v = r ∧ s = σ) (argE [a0]) 0 σ) : Pure prog 88 [a0] r := @pure_of_wp prog hm 88 f88 [] [] ir88 [a0] r func88 ok88 (Nat.le_of_ble_eq_true rfl) H
theorem wa88 {a0 : AV} {σ : Heap} {R : AV → Heap → Prop} (H : WpI prog c88 (retQ [.tmp 2] R) (argE [a0]) 0 σ) : CallsA prog 88 [a0] σ R := @callsA_of_wp prog [] hm 88 f88 [] ir88 [a0] σ R func88 ok88 (Nat.le_of_ble_eq_true rfl) H
/- r04.Text -/
def c89 : ICode :=
  .seq (.region 2 [⟨(some 1), .bbox 0 (.t 0), none⟩,
    ⟨(some 2), .mov (.c (.str ⟨#[]⟩)), none⟩]) <|
  .seq (.region 9 [⟨(some 3), .faddr (some 1) 0 (.b 1), none⟩,
    ⟨(some 4), .load (some 1) 1 false (.t 3), none⟩,
    ⟨(some 5), .call (.c (.clo 88 [])) [(.t 4)], none⟩,
    ⟨(some 6), .bin .add (.t 5) (.c (.str ⟨#[46]⟩)), none⟩,
    ⟨(some 7), .faddr (some 1) 1 (.b 1), none⟩,
    ⟨(some 8), .load (some 1) 1 false (.t 7), none⟩,
    ⟨(some 9), .call (.c (.clo 88 [])) [(.t 8)], none⟩,
    ⟨(some 10), .bin .add (.t 6) (.t 9), none⟩,
    ⟨(some 2), .mov (.t 10), none⟩]) <|
  .ret
def ir89 : IFn := ⟨11, [1], 1, [.tmp 2], c89⟩
theorem ok89 : compFn prog [1] [] f89 = some ir89 := by kernel_rfl
theorem wp89 {a0 : AV} {r : AV} (H : ∀ σ, WpI prog c89 (retQ [.tmp 2] fun v s => v = r ∧ s = σ) (argE [a0]) 0 σ) : Pure prog 89 [a0] r := @pure_of_wp prog hm 89 f89 [1] [] ir89 [a0] r func89 ok89 (Nat.le_of_ble_eq_true rfl) H
theorem wa89 {a0 : AV} {σ : Heap} {R : AV → Heap → Prop} (H : WpI prog c89 (retQ [.tmp 2] R) (argE [a0]) 0 σ) : CallsA prog 89 [a0] σ R := @callsA_of_wp prog [1] hm 89 f89 [] ir89 [a0] σ R func89 ok89 (Nat.le_of_ble_eq_true rfl) H
/- r41.Line -/
def c22 : ICode :=
  .seq (.region 2 [⟨(some 1), .bbox 0 (.t 0), none⟩,
    ⟨(some 2), .mov (.c (.str ⟨#[]⟩)), none⟩]) <|
  .seq (.region 19 [⟨(some 4), .faddr (some 1) 3 (.b 1), none⟩,
    ⟨(some 5), .load (some 1) 1 false (.t 4), none⟩,
    ⟨(some 6), .call (.c (.clo 88 [])) [(.t 5)], none⟩,
    ⟨(some 7), .bin .add (.t 6) (.c (.str ⟨#[32]⟩)), none⟩,
    ⟨(some 8), .faddr (some 1) 0 (.b 1), none⟩,
    ⟨(some 9), .load (some 1) 2 true (.t 8), none⟩,
    ⟨(some 10), .call (.c (.clo 89 [])) [(.t 9)], none⟩,
    ⟨(some 11), .bin .add (.t 7) (.t 10), none⟩,
    ⟨(some 12), .bin .add (.t 11) (.c (.str ⟨#[32, 117, 115, 101, 114, 32]⟩)), none⟩,
    ⟨(some 13), .faddr (some 1) 2 (.b 1), none⟩,
    ⟨(some 14), .load (some 1) 1 false (.t 13), none⟩,
    ⟨(some 15), .call (.c (.clo 88 [])) [(.t 14)], none⟩,
    ⟨(some 16), .bin .add (.t 12) (.t 15), none⟩,
    ⟨(some 17), .bin .add (.t 16) (.c (.str ⟨#[32, 111, 112, 115, 32]⟩)), none⟩,
    ⟨(some 18), .faddr (some 1) 4 (.b 1), none⟩,
    ⟨(some 19), .load (some 1) 1 false (.t 18), none⟩,
    ⟨(some 20), .call (.c (.clo 88 [])) [(.t 19)], none⟩,
    ⟨(some 21), .bin .add (.t 17) (.t 20), none⟩,
    ⟨(some 3), .mov (.t 21), none⟩]) <|
  .seq (.seq (.region 3 [⟨(some 22), .faddr (some 1) 6 (.b 1), none⟩,
    ⟨(some 23), .load (some 1) 1 false (.t 22), none⟩,
    ⟨(some 24), .un .not (.t 23), none⟩]) <|
  .cond (.t 24) (.region 7 [⟨(some 25), .mov (.t 3), none⟩,
    ⟨(some 26), .bin .add (.t 25) (.c (.str ⟨#[32, 117, 110, 100, 111, 110, 101, 32]⟩)), none⟩,
    ⟨(some 27), .faddr (some 1) 5 (.b 1), none⟩,
    ⟨(some 28), .load (some 1) 1 false (.t 27), none⟩,
    ⟨(some 29), .call (.c (.clo 88 [])) [(.t 28)], none⟩,
    ⟨(some 30), .bin .add (.t 26) (.t 29), none⟩,
    ⟨(some 3), .mov (.t 30), none⟩]) (.seq (.region 3 [⟨(some 31), .faddr (some 1) 5 (.b 1), none⟩,
    ⟨(some 32), .load (some 1) 1 false (.t 31), none⟩,
    ⟨(some 33), .bin .gtr (.t 32) (.c (.int 0)), none⟩]) <|
  .cond (.t 33) (.region 7 [⟨(some 34), .mov (.t 3), none⟩,
    ⟨(some 35), .bin .add (.t 34) (.c (.str ⟨#[32, 114, 101, 100, 111, 110, 101, 32]⟩)), none⟩,
    ⟨(some 36), .faddr (some 1) 5 (.b 1), none⟩,
    ⟨(some 37), .load (some 1) 1 false (.t 36), none⟩,
    ⟨(some 38), .call (.c (.clo 88 [])) [(.t 37)], none⟩,
    ⟨(some 39), .bin .add (.t 35) (.t 38), none⟩,
    ⟨(some 3), .mov (.t 39), none⟩]) (.skip))) <|
  .seq (.seq (.region 2 [⟨(some 40), .faddr (some 1) 7 (.b 1), none⟩,
    ⟨(some 41), .load (some 1) 1 false (.t 40), none⟩]) <|
  .cond (.t 41) (.region 3 [⟨(some 42), .mov (.t 3), none⟩,
    ⟨(some 43), .bin .add (.t 42) (.c (.str ⟨#[32, 115, 101, 97, 108, 101, 100]⟩)), none⟩,
    ⟨(some 3), .mov (.t 43), none⟩]) (.skip)) <|
  .seq (.region 2 [⟨(some 44), .mov (.t 3), none⟩,
    ⟨(some 2), .mov (.t 44), none⟩]) <|
  .ret
def ir22 : IFn := ⟨45, [1], 1, [.tmp 2], c22⟩
theorem ok22 : compFn prog [1] [] f22 = some ir22 := by kernel_rfl
theorem wp22 {a0 : AV} {r : AV} (H : ∀ σ, WpI prog c22 (retQ [.tmp 2] fun v s => v = r ∧ s = σ) (argE [a0]) 0 σ) : Pure prog 22 [a0] r := @pure_of_wp prog hm 22 f22 [1] [] ir22 [a0] r func22 ok22 (Nat.le_of_ble_eq_true rfl) H
theorem wa22 {a0 : AV} {σ : Heap} {R : AV → Heap → Prop} (H : WpI prog c22 (retQ [.tmp 2] R) (argE [a0]) 0 σ) : CallsA prog 22 [a0] σ R := @callsA_of_wp prog [1] hm 22 f22 [] ir22 [a0] σ R func22 ok22 (Nat.le_of_ble_eq_true rfl) H
/- r41.Text -/
def c20l0 : ICode :=
  .seq (.seq (.region 4 [⟨(some 5), .mov (.t 4), none⟩,
    ⟨(some 6), .mov (.t 0), none⟩,
    ⟨(some 7), .len (.t 6), none⟩,
    ⟨(some 8), .bin .lss (.t 5) (.t 7), none⟩]) <|
  .cond (.t 8) (.skip) (.exit 0)) <|
  .seq (.block 1 (.region 9 [⟨(some 11), .mov (.t 3), none⟩,
    ⟨(some 12), .mov (.t 0), none⟩,
    ⟨(some 13), .mov (.t 4), none⟩,
    ⟨(some 14), .iaddrS 8 (.t 12) (.t 13), none⟩,
    ⟨(some 15), .load none 8 true (.t 14), none⟩,
    ⟨(some 16), .call (.c (.clo 22 [])) [(.t 15)], none⟩,
    ⟨(some 17), .bin .add (.t 11) (.t 16), none⟩,
    ⟨(some 18), .bin .add (.t 17) (.c (.str ⟨#[10]⟩)), none⟩,
    ⟨(some 3), .mov (.t 18), none⟩])) <|
  .region 3 [⟨(some 9), .mov (.t 4), none⟩,
    ⟨(some 10), .bin .add (.t 9) (.c (.int 1)), none⟩,
    ⟨(some 4), .mov (.t 10), none⟩]
def c20 : ICode :=
  .seq (.region 1 [⟨(some 2), .mov (.c (.str ⟨#[]⟩)), none⟩]) <|
  .seq (.region 1 [⟨(some 3), .mov (.c (.str ⟨#[]⟩)), none⟩]) <|
  .seq (.seq (.region 1 [⟨(some 4), .mov (.c (.int 0)), none⟩]) <|
  .block 0 (.loop c20l0)) <|
  .seq (.region 2 [⟨(some 19), .mov (.t 3), none⟩,
    ⟨(some 2), .mov (.t 19), none⟩]) <|
  .ret
def ir20 : IFn := ⟨20, [], 1, [.tmp 2], c20⟩
theorem ok20 : compFn prog [] [] f20 = some ir20 := by kernel_rfl
theorem wp20 {a0 : AV} {r : AV} (H : ∀ σ, WpI prog c20 (retQ [.tmp 2] fun v s => v = r ∧ s = σ) (argE [a0]) 0 σ) : Pure prog 20 [a0] r := @pure_of_wp prog hm 20 f20 [] [] ir20 [a0] r func20 ok20 (Nat.le_of_ble_eq_true rfl) H
theorem wa20 {a0 : AV} {σ : Heap} {R : AV → Heap → Prop} (H : WpI prog c20 (retQ [.tmp 2] R) (argE [a0]) 0 σ) : CallsA prog 20 [a0] σ R := @callsA_of_wp prog [] hm 20 f20 [] ir20 [a0] σ R func20 ok20 (Nat.le_of_ble_eq_true rfl) H


def digM (n : Int) : Nat := if 0 ≤ n then 2 * n.toNat else 2 * n.natAbs + 1

def digC (u : Nat) : ByteArray := ⟨#[UInt8.ofNat (48 + u)]⟩

theorem ba_app (a b : List UInt8) : (⟨(a ++ b).toArray⟩ : ByteArray) = ⟨a.toArray⟩ ++ ⟨b.toArray⟩ := by
  apply ByteArray.ext
  simp
theorem slc_dig {m : Int} (h0 : 0 ≤ m) (h1 : m < 10) : sslcA (some (.int m)) (some (.int (m + 1))) (.str ⟨#[48, 49, 50, 51, 52, 53, 54, 55, 56, 57]⟩) = some (.str (digC m.toNat)) := by
  obtain ⟨k, rfl⟩ : ∃ k : Nat, m = k := ⟨m.toNat, by omega⟩
  have hk : k < 10 := by omega
  match k, hk with
  | 0, _ | 1, _ | 2, _ | 3, _ | 4, _ | 5, _ | 6, _ | 7, _ | 8, _ | 9, _ => rfl
theorem digC_le (u : Nat) : (digC u).size ≤ 1 := Nat.le_refl _
theorem catA {m : Int} (h0 : -9223372036854775808 ≤ m) (h1 : m ≤ 9223372036854775807) : binA .add (.str ⟨#[45]⟩) (.str (itoaB m)) = some (.str (⟨#[45]⟩ ++ itoaB m)) := cat (lit_le #[45]) (itoaB_le ⟨h0, h1⟩) (by decide)
theorem catB {m k : Int} (h0 : -9223372036854775808 ≤ m) (h1 : m ≤ 9223372036854775807) (h2 : -9223372036854775808 ≤ k) (h3 : k ≤ 9223372036854775807) :
    binA .add (.str (⟨#[45]⟩ ++ itoaB m)) (.str (itoaB k)) = some (.str (⟨#[45]⟩ ++ itoaB m ++ itoaB k)) := cat (app_le (lit_le #[45]) (itoaB_le ⟨h0, h1⟩)) (itoaB_le ⟨h2, h3⟩) (by decide)
theorem catC {m : Int} {u : Nat} (h0 : -9223372036854775808 ≤ m) (h1 : m ≤ 9223372036854775807) : binA .add (.str (itoaB m)) (.str (digC u)) = some (.str (itoaB m ++ digC u)) := cat (itoaB_le ⟨h0, h1⟩) (digC_le u) (by decide)

theorem q10p {n : Int} (h0 : 0 ≤ n) (h1 : n ≤ 9223372036854775807) : binA .quo (.int n) (.int 10) = some (.int (n / 10)) := by
  rw [AV.int, b3 (by decide), Int.tdiv_eq_ediv_of_nonneg h0, wr (by omega) (by omega)]
theorem r10p {n : Int} (h0 : 0 ≤ n) : binA .rem (.int n) (.int 10) = some (.int (n % 10)) := by
  rw [AV.int, b4 (by decide), Int.tmod_eq_emod_of_nonneg h0]
theorem q10n {n : Int} (h0 : n < 0) (h1 : -9223372036854775808 ≤ n) : binA .quo (.int n) (.int 10) = some (.int (-((0 - n) / 10))) := by
  rw [AV.int, b3 (by decide)]
  have : n.tdiv 10 = -((0 - n) / 10) := by
    obtain ⟨m, rfl⟩ : ∃ m : Int, n = -m := ⟨-n, by omega⟩
    rw [Int.neg_tdiv, Int.tdiv_eq_ediv_of_nonneg (by omega)]; congr 2; omega
  rw [this, wr (by omega) (by omega)]
theorem r10n {n : Int} (h0 : n < 0) : binA .rem (.int n) (.int 10) = some (.int (-((0 - n) % 10))) := by
  rw [AV.int, b4 (by decide)]
  have : n.tmod 10 = -((0 - n) % 10) := by
    obtain ⟨m, rfl⟩ : ∃ m : Int, n = -m := ⟨-n, by omega⟩
    rw [Int.neg_tmod, Int.tmod_eq_emod_of_nonneg (by omega)]; congr 2; omega
  rw [this]

theorem itoaB_small {n : Int} (h0 : 0 ≤ n) (h : n < 10) : itoaB n = digC n.toNat := by
  unfold itoaB digC Go.Lib.itoa
  rw [if_neg (by omega)]
  unfold Go.Lib.decDigits
  rw [dif_pos (by omega)]
theorem itoaB_big {n : Int} (h : 10 ≤ n) : itoaB n = itoaB (n / 10) ++ digC (n % 10).toNat := by
  unfold itoaB digC Go.Lib.itoa
  rw [if_neg (by omega), if_neg (by omega)]
  conv => lhs; unfold Go.Lib.decDigits
  rw [dif_neg (by omega), show (n / 10).toNat = n.toNat / 10 by omega, show (n % 10).toNat = n.toNat % 10 by omega]
  exact ba_app _ _
theorem itoaB_neg {n : Int} (h : n < 0) : itoaB n = ⟨#[45]⟩ ++ itoaB (0 - n) := by
  unfold itoaB Go.Lib.itoa
  rw [if_pos h, if_neg (by omega), show (0 - n).toNat = n.natAbs by omega]
  exact ba_app [45] _

theorem k_digits : ∀ (k : Nat) (n : Int), iok n → digM n < k → Pure prog 88 [.int n] (.str (itoaB n)) := by
  intro k
  induction k with
  | zero => intro n h hk; omega
  | succ k ih =>
    intro n h hk
    unfold iok at h
    have hk' : n < 0 → 2 * n.natAbs + 1 < k + 1 := fun h => by unfold digM at hk; rw [if_neg (by omega)] at hk; exact hk
    have hk2 : 0 ≤ n → 2 * n.toNat < k + 1 := fun h => by unfold digM at hk; rw [if_pos h] at hk; exact hk
    have ih' : ∀ m : Int, 0 ≤ m → m ≤ 9223372036854775807 → 2 * m.toNat < k → Pure prog 88 [.int m] (.str (itoaB m)) := fun m h0 h1 h2 => ih m ⟨by omega, h1⟩ (by unfold digM; rw [if_pos h0]; exact h2)
    clear ih hk
    refine wp88 fun σ => ?_
    unfold c88
    simp -dsimp (disch := first | omega | assumption) only [↓PB, ↓reduceIte, QB, QC, QD, QE, Nat.reduceAdd, Nat.reduceMul, Nat.reduceEqDiff, Nat.reduceLT, Nat.reduceLeDiff, reduceCtorEq, QF, QG, QH, QI]
    repeat' (first
      | (with_reducible refine CallG.pure (ih' (0 - n) (by omega) (by omega) (by omega)) ?_)
      | (with_reducible refine CallQ.pure (ih' (0 - n) (by omega) (by omega) (by omega)) ?_)
      | (with_reducible refine CallG.pure (ih' (0 - -((0 - n) / 10)) (by omega) (by omega) (by omega)) ?_)
      | (with_reducible refine CallQ.pure (ih' (0 - -((0 - n) / 10)) (by omega) (by omega) (by omega)) ?_)
      | (with_reducible refine CallG.pure (ih' (0 - -((0 - n) % 10)) (by omega) (by omega) (by omega)) ?_)
      | (with_reducible refine CallQ.pure (ih' (0 - -((0 - n) % 10)) (by omega) (by omega) (by omega)) ?_)
      | (with_reducible refine CallG.pure (ih' (n / 10) (by omega) (by omega) (by omega)) ?_)
      | (with_reducible refine CallQ.pure (ih' (n / 10) (by omega) (by omega) (by omega)) ?_)
      | (with_reducible refine condD (fun _ => ?_) (fun _ => ?_)) <;> try (exfalso; omega)
      | (with_reducible refine condB (fun _ => ?_) (fun _ => ?_))
      | (with_reducible refine guardD (fun _ => ?_) (fun _ => ?_)) <;> try (exfalso; omega)
      | (with_reducible refine guardB (fun _ => ?_) (fun _ => ?_))
      | (with_reducible refine app_row (by assumption) src_lst (by simp only [List.length_map, List.length_append, List.length_cons, List.length_nil]; omega) (by simp only [List.length_map, List.length_append, List.length_cons, List.length_nil]; omega) (fun _ _ => ?_))
      | (simp -dsimp (disch := first | omega | assumption) only [↓PB, ↓reduceIte, QB, QC, QD, QE, Nat.reduceAdd, Nat.reduceMul, Nat.reduceEqDiff, Nat.reduceLT, Nat.reduceLeDiff, reduceCtorEq, QF, QG, QH, QI, slc_dig, catA, catB, catC, q10p, r10p, q10n, r10n, *]))
    · exact RetG.same ⟨by rw [itoaB_neg (n := n) (by omega)]; rfl, rfl⟩
    · refine RetG.same ⟨?_, rfl⟩
      rw [itoaB_neg (n := n) (by omega), itoaB_big (n := 0 - n) (by omega), show 0 - -((0 - n) / 10) = (0 - n) / 10 by omega, show 0 - -((0 - n) % 10) = (0 - n) % 10 by omega,
        itoaB_small (n := (0 - n) % 10) (by omega) (by omega), ByteArray.append_assoc]; rfl
    · exact RetG.same ⟨by rw [itoaB_small (n := n) (by omega) (by omega)]; rfl, rfl⟩
    · exact RetG.same ⟨by rw [itoaB_big (n := n) (by omega)]; rfl, rfl⟩

theorem k_r04_Digits {n : Int} (h : iok n) : Pure prog 88 [.int n] (.str (itoaB n)) := k_digits _ n h (Nat.lt_succ_self _)

theorem k_r04_Text (d : Dot) (h1 : iok d.R) (h2 : iok d.N) : Pure prog 89 [encDot d] (.str (dotTextB d)) := by
  have e1 := cat (itoaB_le h1) (lit_le #[46]) (by decide)
  have e2 := cat (app_le (itoaB_le h1) (lit_le #[46])) (itoaB_le h2) (by decide)
  refine wp89 fun σ => ?_
  unfold c89
  simp -dsimp (disch := first | omega | assumption) only [↓PB, ↓reduceIte, QB, QC, QD, QE, Nat.reduceAdd, Nat.reduceMul, Nat.reduceEqDiff, Nat.reduceLT, Nat.reduceLeDiff, reduceCtorEq, QF, QG, QH, QI]
  repeat' (first
    | (with_reducible refine CallG.pure (k_r04_Digits h1) ?_)
    | (with_reducible refine CallQ.pure (k_r04_Digits h1) ?_)
    | (with_reducible refine CallG.pure (k_r04_Digits h2) ?_)
    | (with_reducible refine CallQ.pure (k_r04_Digits h2) ?_)
    | (with_reducible refine condD (fun _ => ?_) (fun _ => ?_)) <;> try (exfalso; omega)
    | (with_reducible refine condB (fun _ => ?_) (fun _ => ?_))
    | (with_reducible refine guardD (fun _ => ?_) (fun _ => ?_)) <;> try (exfalso; omega)
    | (with_reducible refine guardB (fun _ => ?_) (fun _ => ?_))
    | (with_reducible refine app_row (by assumption) src_lst (by simp only [List.length_map, List.length_append, List.length_cons, List.length_nil]; omega) (by simp only [List.length_map, List.length_append, List.length_cons, List.length_nil]; omega) (fun _ _ => ?_))
    | (simp -dsimp (disch := first | omega | assumption) only [↓PB, ↓reduceIte, QB, QC, QD, QE, Nat.reduceAdd, Nat.reduceMul, Nat.reduceEqDiff, Nat.reduceLT, Nat.reduceLeDiff, reduceCtorEq, QF, QG, QH, QI, *]))
  exact RetG.same ⟨rfl, rfl⟩

theorem ba_ext {a b : ByteArray} (h : a.data.toList = b.data.toList) : a = b := by
  cases a; cases b; simp at h; simp [h]

theorem k_r41_Line (r : Row) (h : RowOk r) : Pure prog 22 [encRow r] (.str (lineB r)) := by
  have s1 := itoaB_le h.T
  have s2 := itoaB_le h.U
  have s3 := itoaB_le h.O
  have s4 := itoaB_le h.N
  have s5 : (dotTextB r.D).size ≤ 43 := app_le (app_le (itoaB_le h.D1) (lit_le #[46])) (itoaB_le h.D2)
  have l1 : (⟨#[32]⟩ : ByteArray).size = 1 := rfl
  have l2 : (⟨#[32, 117, 115, 101, 114, 32]⟩ : ByteArray).size = 6 := rfl
  have l3 : (⟨#[32, 111, 112, 115, 32]⟩ : ByteArray).size = 5 := rfl
  have l4 : (⟨#[32, 117, 110, 100, 111, 110, 101, 32]⟩ : ByteArray).size = 8 := rfl
  have l5 : (⟨#[32, 114, 101, 100, 111, 110, 101, 32]⟩ : ByteArray).size = 8 := rfl
  have l6 : (⟨#[32, 115, 101, 97, 108, 101, 100]⟩ : ByteArray).size = 7 := rfl
  refine wp22 fun σ => ?_
  unfold c22
  simp -dsimp (disch := first | omega | assumption) only [↓PB, ↓reduceIte, QB, QC, QD, QE, Nat.reduceAdd, Nat.reduceMul, Nat.reduceEqDiff, Nat.reduceLT, Nat.reduceLeDiff, reduceCtorEq, QF, QG, QH, QI]
  repeat' (first
    | (with_reducible refine CallG.pure (k_r04_Digits h.T) ?_)
    | (with_reducible refine CallQ.pure (k_r04_Digits h.T) ?_)
    | (with_reducible refine CallG.pure (k_r04_Digits h.U) ?_)
    | (with_reducible refine CallQ.pure (k_r04_Digits h.U) ?_)
    | (with_reducible refine CallG.pure (k_r04_Digits h.O) ?_)
    | (with_reducible refine CallQ.pure (k_r04_Digits h.O) ?_)
    | (with_reducible refine CallG.pure (k_r04_Digits h.N) ?_)
    | (with_reducible refine CallQ.pure (k_r04_Digits h.N) ?_)
    | (with_reducible refine CallG.pure (k_r04_Text r.D h.D1 h.D2) ?_)
    | (with_reducible refine CallQ.pure (k_r04_Text r.D h.D1 h.D2) ?_)
    | (rw [bd (by simp only [ByteArray.size_append]; omega)])
    | (with_reducible refine condD (fun _ => ?_) (fun _ => ?_)) <;> try (exfalso; omega)
    | (with_reducible refine condB (fun _ => ?_) (fun _ => ?_))
    | (with_reducible refine guardD (fun _ => ?_) (fun _ => ?_)) <;> try (exfalso; omega)
    | (with_reducible refine guardB (fun _ => ?_) (fun _ => ?_))
    | (with_reducible refine app_row (by assumption) src_lst (by simp only [List.length_map, List.length_append, List.length_cons, List.length_nil]; omega) (by simp only [List.length_map, List.length_append, List.length_cons, List.length_nil]; omega) (fun _ _ => ?_))
    | (simp -dsimp (disch := first | omega | assumption) only [↓PB, ↓reduceIte, QB, QC, QD, QE, Nat.reduceAdd, Nat.reduceMul, Nat.reduceEqDiff, Nat.reduceLT, Nat.reduceLeDiff, reduceCtorEq, QF, QG, QH, QI, *]))
  all_goals clear s1 s2 s3 s4 s5 l1 l2 l3 l4 l5 l6
  all_goals refine RetG.same ⟨congrArg AV.str (ba_ext ?_), rfl⟩
  all_goals simp [lineB, joinB, lineHead, lineMid, lineEnd, *, Go.Lib.join_cons, Go.Lib.joinTail]
theorem ba_add {a b : ByteArray} : (a ++ b).data.toList = a.data.toList ++ b.data.toList := by simp

theorem k_r41_Text (l : List Row) (h : ∀ r ∈ l, RowOk r) (hn : l.length ≤ 1000000) : Pure prog 20 [encL 8 encRow l] (.str ⟨(Go.Proofs.textB lineB l).toArray⟩) := by
  refine wp20 fun σ => ?_
  unfold c20
  simp -dsimp (disch := first | omega | assumption) only [↓PB, ↓reduceIte, QB, QC, QD, QE, Nat.reduceAdd, Nat.reduceMul, Nat.reduceEqDiff, Nat.reduceLT, Nat.reduceLeDiff, reduceCtorEq, QF, QG, QH, QI]
  refine loop_p l.length (fun i e => e 4 = .int i ∧ ∃ acc : ByteArray, e 3 = .str acc ∧ acc.data.toList = Go.Proofs.textB lineB (l.take i) ∧ acc.size ≤ 1000 * i) 0 (by omega) ⟨by simp -dsimp (disch := first | omega | assumption) only [↓PB, ↓reduceIte, QB, QC, QD, QE, Nat.reduceAdd, Nat.reduceMul, Nat.reduceEqDiff, Nat.reduceLT, Nat.reduceLeDiff, reduceCtorEq, QF, QG, QH, QI, *] <;> rfl, ⟨#[]⟩, by simp -dsimp (disch := first | omega | assumption) only [↓PB, ↓reduceIte, QB, QC, QD, QE, Nat.reduceAdd, Nat.reduceMul, Nat.reduceEqDiff, Nat.reduceLT, Nat.reduceLeDiff, reduceCtorEq, QF, QG, QH, QI, *] <;> rfl, rfl, by decide⟩ ?_
  rintro i e n hi ha ⟨h4, acc, h3, hacc, hsz⟩
  have g0 := ha 0 (by decide)
  simp -dsimp (disch := first | omega | assumption) only [↓PB, ↓reduceIte, QB, QC, QD, QE, Nat.reduceAdd, Nat.reduceMul, Nat.reduceEqDiff, Nat.reduceLT, Nat.reduceLeDiff, reduceCtorEq, QF, QG, QH, QI, *] at g0
  clear ha
  unfold c20l0
  by_cases hlt : i < l.length
  · have hr := h _ (List.getElem_mem hlt)
    have s1 := (lineB_sz _ hr).2
    have l1 : (⟨#[10]⟩ : ByteArray).size = 1 := rfl
    have htk := Go.Proofs.textB_take lineB l i _ (List.getElem?_eq_getElem hlt)
    repeat' (first
      | (with_reducible refine CallG.pure (k_r41_Line _ hr) ?_)
      | (with_reducible refine CallQ.pure (k_r41_Line _ hr) ?_)
      | (rw [bd (by simp only [ByteArray.size_append]; omega)])
      | (with_reducible refine condD (fun _ => ?_) (fun _ => ?_)) <;> try (exfalso; omega)
      | (with_reducible refine condB (fun _ => ?_) (fun _ => ?_))
      | (with_reducible refine guardD (fun _ => ?_) (fun _ => ?_)) <;> try (exfalso; omega)
      | (with_reducible refine guardB (fun _ => ?_) (fun _ => ?_))
      | (with_reducible refine app_row (by assumption) src_lst (by simp only [List.length_map, List.length_append, List.length_cons, List.length_nil]; omega) (by simp only [List.length_map, List.length_append, List.length_cons, List.length_nil]; omega) (fun _ _ => ?_))
      | (simp -dsimp (disch := first | omega | assumption) only [↓PB, ↓reduceIte, QB, QC, QD, QE, Nat.reduceAdd, Nat.reduceMul, Nat.reduceEqDiff, Nat.reduceLT, Nat.reduceLeDiff, reduceCtorEq, QF, QG, QH, QI, *]))
    refine ⟨by simp, _, rfl, ?_, ?_⟩
    · rw [ba_add, ba_add, hacc, List.append_assoc]
    · simp only [ByteArray.size_append]; omega
  · repeat' (first
      | (with_reducible refine condD (fun _ => ?_) (fun _ => ?_)) <;> try (exfalso; omega)
      | (with_reducible refine condB (fun _ => ?_) (fun _ => ?_))
      | (with_reducible refine guardD (fun _ => ?_) (fun _ => ?_)) <;> try (exfalso; omega)
      | (with_reducible refine guardB (fun _ => ?_) (fun _ => ?_))
      | (with_reducible refine app_row (by assumption) src_lst (by simp only [List.length_map, List.length_append, List.length_cons, List.length_nil]; omega) (by simp only [List.length_map, List.length_append, List.length_cons, List.length_nil]; omega) (fun _ _ => ?_))
      | (simp -dsimp (disch := first | omega | assumption) only [↓PB, ↓reduceIte, QB, QC, QD, QE, Nat.reduceAdd, Nat.reduceMul, Nat.reduceEqDiff, Nat.reduceLT, Nat.reduceLeDiff, reduceCtorEq, QF, QG, QH, QI, *]))
    rw [List.take_of_length_le (by omega)] at hacc
    exact RetG.same ⟨congrArg AV.str (ba_ext (by simp [hacc])), rfl⟩

theorem rowOk_of {r : Row} (h : ∀ j, iok (rowI r j)) : RowOk r := ⟨h 0, h 1, h 2, h 3, h 4, h 5⟩
theorem rowOk_to {r : Row} (h : RowOk r) (j : Nat) : iok (rowI r j) := by
  unfold rowI
  split
  · exact h.D1
  · exact h.D2
  · exact h.U
  · exact h.T
  · exact h.O
  · exact h.N

theorem textB_len (l : List Row) (h : ∀ r ∈ l, RowOk r) : (Go.Proofs.textB lineB l).length ≤ 501 * l.length := by
  induction l with
  | nil => simp [Go.Proofs.textB]
  | cons r l ih =>
    have h1 := ih fun x hx => h x (List.mem_cons_of_mem _ hx)
    have h2 := (lineB_sz r (h r (List.mem_cons_self))).2
    have h3 : (lineB r).data.toList.length = (lineB r).size := rfl
    simp only [Go.Proofs.textB, List.flatMap_cons, List.length_append, List.length_cons, List.length_nil] at h1 ⊢
    omega

theorem k_historyText {σ : Heap} (h0 : Tab σ) (l : List Row) (h : ∀ r ∈ l, RowOk r) (hn : l.length ≤ 1000000) : PureAt prog 19 [encL 8 encRow l] σ (.str ⟨(Go.Proofs.textB lineB l).toArray⟩) :=
  text_at (fun r hr τ hτ => k_historyLine hτ r (rowOk_of hr)) l (fun r hr => rowOk_to (h r hr)) h0 (by have := textB_len l h; omega) (by omega)
end Go.Av

namespace Go.Av
open Go.Proofs.Tryz
set_option maxRecDepth 100000
set_option linter.unusedSimpArgs false
set_option linter.unusedVariables false

/- r41.All -/
def c17l0 : ICode :=
  .seq (.seq (.region 17 [⟨(some 18), .mov (.t 5), none⟩,
    ⟨(some 19), .mov (.t 3), none⟩,
    ⟨(some 20), .len (.t 19), none⟩,
    ⟨(some 21), .bin .lss (.t 18) (.t 20), none⟩,
    ⟨(some 22), .mov (.t 21), none⟩,
    ⟨(some 23), .mov (.t 3), (some (22, true))⟩,
    ⟨(some 24), .mov (.t 5), (some (22, true))⟩,
    ⟨(some 25), .iaddrS 6 (.t 23) (.t 24), (some (22, true))⟩,
    ⟨(some 26), .load none 6 true (.t 25), (some (22, true))⟩,
    ⟨(some 27), .faddr (some 1) 0 (.b 1), (some (22, true))⟩,
    ⟨(some 28), .load (some 1) 1 false (.t 27), (some (22, true))⟩,
    ⟨(some 29), .mov (.t 4), (some (22, true))⟩,
    ⟨(some 30), .iaddrS 6 (.t 28) (.t 29), (some (22, true))⟩,
    ⟨(some 31), .load none 6 true (.t 30), (some (22, true))⟩,
    ⟨(some 32), .call (.c (.clo 79 [])) [(.t 26), (.t 31)], (some (22, true))⟩,
    ⟨(some 33), .bin .lss (.t 32) (.c (.int 0)), (some (22, true))⟩,
    ⟨(some 34), .pick (.t 22) (.t 33) (.c (.bool false)), none⟩]) <|
  .cond (.t 34) (.skip) (.exit 2)) <|
  .block 3 (.region 3 [⟨(some 35), .mov (.t 5), none⟩,
    ⟨(some 36), .bin .add (.t 35) (.c (.int 1)), none⟩,
    ⟨(some 5), .mov (.t 36), none⟩])
def c17l1 : ICode :=
  .seq (.seq (.region 3 [⟨(some 48), .mov (.t 6), none⟩,
    ⟨(some 49), .mov (.t 5), none⟩,
    ⟨(some 50), .bin .gtr (.t 48) (.t 49), none⟩]) <|
  .cond (.t 50) (.skip) (.exit 4)) <|
  .seq (.block 5 (.region 9 [⟨(some 53), .mov (.t 3), none⟩,
    ⟨(some 54), .mov (.t 6), none⟩,
    ⟨(some 55), .mov (.t 3), none⟩,
    ⟨(some 56), .mov (.t 6), none⟩,
    ⟨(some 57), .bin .sub (.t 56) (.c (.int 1)), none⟩,
    ⟨(some 58), .iaddrS 6 (.t 55) (.t 57), none⟩,
    ⟨(some 59), .load none 6 true (.t 58), none⟩,
    ⟨(some 60), .iaddrS 6 (.t 53) (.t 54), none⟩,
    ⟨none, .store none 6 (.t 60) (.t 59), none⟩])) <|
  .region 3 [⟨(some 51), .mov (.t 6), none⟩,
    ⟨(some 52), .bin .sub (.t 51) (.c (.int 1)), none⟩,
    ⟨(some 6), .mov (.t 52), none⟩]
def c17l2 : ICode :=
  .seq (.seq (.region 5 [⟨(some 11), .mov (.t 4), none⟩,
    ⟨(some 12), .faddr (some 1) 0 (.b 1), none⟩,
    ⟨(some 13), .load (some 1) 1 false (.t 12), none⟩,
    ⟨(some 14), .len (.t 13), none⟩,
    ⟨(some 15), .bin .lss (.t 11) (.t 14), none⟩]) <|
  .cond (.t 15) (.skip) (.exit 0)) <|
  .seq (.block 1 (.seq (.region 1 [⟨(some 5), .mov (.c (.int 0)), none⟩]) <|
  .seq (.block 2 (.loop c17l0)) <|
  .seq (.region 9 [⟨(some 37), .mov (.t 3), none⟩,
    ⟨(some 38), .faddr (some 1) 0 (.b 1), none⟩,
    ⟨(some 39), .load (some 1) 1 false (.t 38), none⟩,
    ⟨(some 40), .mov (.t 4), none⟩,
    ⟨(some 41), .iaddrS 6 (.t 39) (.t 40), none⟩,
    ⟨(some 42), .load none 6 true (.t 41), none⟩,
    ⟨(some 43), .bslice 6 [(.t 42)], none⟩,
    ⟨(some 44), .app 6 64 (.t 37) (.t 43), none⟩,
    ⟨(some 3), .mov (.t 44), none⟩]) <|
  .seq (.seq (.region 4 [⟨(some 45), .mov (.t 3), none⟩,
    ⟨(some 46), .len (.t 45), none⟩,
    ⟨(some 47), .bin .sub (.t 46) (.c (.int 1)), none⟩,
    ⟨(some 6), .mov (.t 47), none⟩]) <|
  .block 4 (.loop c17l1)) <|
  .region 9 [⟨(some 61), .mov (.t 3), none⟩,
    ⟨(some 62), .mov (.t 5), none⟩,
    ⟨(some 63), .faddr (some 1) 0 (.b 1), none⟩,
    ⟨(some 64), .load (some 1) 1 false (.t 63), none⟩,
    ⟨(some 65), .mov (.t 4), none⟩,
    ⟨(some 66), .iaddrS 6 (.t 64) (.t 65), none⟩,
    ⟨(some 67), .load none 6 true (.t 66), none⟩,
    ⟨(some 68), .iaddrS 6 (.t 61) (.t 62), none⟩,
    ⟨none, .store none 6 (.t 68) (.t 67), none⟩])) <|
  .region 3 [⟨(some 16), .mov (.t 4), none⟩,
    ⟨(some 17), .bin .add (.t 16) (.c (.int 1)), none⟩,
    ⟨(some 4), .mov (.t 17), none⟩]
def c17l3 : ICode :=
  .seq (.seq (.region 8 [⟨(some 91), .mov (.t 10), none⟩,
    ⟨(some 92), .mov (.t 3), none⟩,
    ⟨(some 93), .mov (.t 8), none⟩,
    ⟨(some 94), .iaddrS 6 (.t 92) (.t 93), none⟩,
    ⟨(some 95), .faddr none 5 (.t 94), none⟩,
    ⟨(some 96), .load none 1 false (.t 95), none⟩,
    ⟨(some 97), .len (.t 96), none⟩,
    ⟨(some 98), .bin .lss (.t 91) (.t 97), none⟩]) <|
  .cond (.t 98) (.skip) (.exit 8)) <|
  .seq (.block 9 (.seq (.region 10 [⟨(some 101), .mov (.t 3), none⟩,
    ⟨(some 102), .mov (.t 8), none⟩,
    ⟨(some 103), .iaddrS 6 (.t 101) (.t 102), none⟩,
    ⟨(some 104), .faddr none 5 (.t 103), none⟩,
    ⟨(some 105), .load none 1 false (.t 104), none⟩,
    ⟨(some 106), .mov (.t 10), none⟩,
    ⟨(some 107), .iaddrS 7 (.t 105) (.t 106), none⟩,
    ⟨(some 108), .load none 7 true (.t 107), none⟩,
    ⟨(some 109), .call (.c (.clo 80 [])) [(.t 108)], none⟩,
    ⟨(some 110), .un .not (.t 109), none⟩]) <|
  .cond (.t 110) (.region 5 [⟨(some 111), .faddr (some 9) 4 (.b 9), none⟩,
    ⟨(some 112), .load (some 9) 1 false (.t 111), none⟩,
    ⟨(some 113), .bin .add (.t 112) (.c (.int 1)), none⟩,
    ⟨(some 114), .faddr (some 9) 4 (.b 9), none⟩,
    ⟨none, .store (some 9) 1 (.t 114) (.t 113), none⟩]) (.skip))) <|
  .region 3 [⟨(some 99), .mov (.t 10), none⟩,
    ⟨(some 100), .bin .add (.t 99) (.c (.int 1)), none⟩,
    ⟨(some 10), .mov (.t 100), none⟩]
def c17l4 : ICode :=
  .seq (.seq (.region 4 [⟨(some 69), .mov (.t 8), none⟩,
    ⟨(some 70), .mov (.t 3), none⟩,
    ⟨(some 71), .len (.t 70), none⟩,
    ⟨(some 72), .bin .lss (.t 69) (.t 71), none⟩]) <|
  .cond (.t 72) (.skip) (.exit 6)) <|
  .seq (.block 7 (.seq (.region 18 [⟨(some 75), .mov (.t 3), none⟩,
    ⟨(some 76), .mov (.t 8), none⟩,
    ⟨(some 77), .iaddrS 6 (.t 75) (.t 76), none⟩,
    ⟨(some 78), .faddr none 0 (.t 77), none⟩,
    ⟨(some 79), .load none 2 true (.t 78), none⟩,
    ⟨(some 80), .mov (.t 3), none⟩,
    ⟨(some 81), .mov (.t 8), none⟩,
    ⟨(some 82), .iaddrS 6 (.t 80) (.t 81), none⟩,
    ⟨(some 83), .faddr none 2 (.t 82), none⟩,
    ⟨(some 84), .load none 1 false (.t 83), none⟩,
    ⟨(some 85), .mov (.t 3), none⟩,
    ⟨(some 86), .mov (.t 8), none⟩,
    ⟨(some 87), .iaddrS 6 (.t 85) (.t 86), none⟩,
    ⟨(some 88), .faddr none 3 (.t 87), none⟩,
    ⟨(some 89), .load none 1 false (.t 88), none⟩,
    ⟨(some 90), .build (.agg [(.int 0), (.int 0), (.int 0), (.int 0), (.int 0), (.int 0), (.bool false), (.bool false)]) [(0, 2, (.t 79)), (2, 1, (.t 84)), (3, 1, (.t 89))], none⟩,
    ⟨(some 9), .nbox 16 (.agg [(.int 0), (.int 0), (.int 0), (.int 0), (.int 0), (.int 0), (.bool false), (.bool false)]), none⟩,
    ⟨none, .store (some 9) 8 (.b 9) (.t 90), none⟩]) <|
  .seq (.seq (.region 1 [⟨(some 10), .mov (.c (.int 0)), none⟩]) <|
  .block 8 (.loop c17l3)) <|
  .seq (.region 7 [⟨(some 115), .faddr (some 1) 1 (.b 1), none⟩,
    ⟨(some 116), .load (some 1) 1 false (.t 115), none⟩,
    ⟨(some 117), .faddr (some 9) 0 (.b 9), none⟩,
    ⟨(some 118), .load (some 9) 2 true (.t 117), none⟩,
    ⟨(some 119), .call (.c (.clo 81 [])) [(.t 116), (.t 118)], none⟩,
    ⟨(some 120), .faddr (some 9) 5 (.b 9), none⟩,
    ⟨none, .store (some 9) 1 (.t 120) (.t 119), none⟩]) <|
  .seq (.region 6 [⟨(some 121), .faddr (some 9) 5 (.b 9), none⟩,
    ⟨(some 122), .load (some 9) 1 false (.t 121), none⟩,
    ⟨(some 123), .bin .rem (.t 122) (.c (.int 2)), none⟩,
    ⟨(some 124), .bin .eql (.t 123) (.c (.int 0)), none⟩,
    ⟨(some 125), .faddr (some 9) 6 (.b 9), none⟩,
    ⟨none, .store (some 9) 1 (.t 125) (.t 124), none⟩]) <|
  .seq (.region 7 [⟨(some 126), .faddr (some 1) 19 (.b 1), none⟩,
    ⟨(some 127), .load (some 1) 17 true (.t 126), none⟩,
    ⟨(some 128), .faddr (some 9) 0 (.b 9), none⟩,
    ⟨(some 129), .load (some 9) 2 true (.t 128), none⟩,
    ⟨(some 130), .call (.c (.clo 82 [])) [(.t 127), (.t 129)], none⟩,
    ⟨(some 131), .faddr (some 9) 7 (.b 9), none⟩,
    ⟨none, .store (some 9) 1 (.t 131) (.t 130), none⟩]) <|
  .region 5 [⟨(some 132), .mov (.t 7), none⟩,
    ⟨(some 133), .load (some 9) 8 true (.b 9), none⟩,
    ⟨(some 134), .bslice 8 [(.t 133)], none⟩,
    ⟨(some 135), .app 8 56 (.t 132) (.t 134), none⟩,
    ⟨(some 7), .mov (.t 135), none⟩])) <|
  .region 3 [⟨(some 73), .mov (.t 8), none⟩,
    ⟨(some 74), .bin .add (.t 73) (.c (.int 1)), none⟩,
    ⟨(some 8), .mov (.t 74), none⟩]
def c17 : ICode :=
  .seq (.region 2 [⟨(some 1), .bbox 0 (.t 0), none⟩,
    ⟨(some 2), .mov (.c .nils), none⟩]) <|
  .seq (.region 1 [⟨(some 3), .mov (.c .nils), none⟩]) <|
  .seq (.seq (.region 1 [⟨(some 4), .mov (.c (.int 0)), none⟩]) <|
  .block 0 (.loop c17l2)) <|
  .seq (.region 1 [⟨(some 7), .mov (.c .nils), none⟩]) <|
  .seq (.seq (.region 1 [⟨(some 8), .mov (.c (.int 0)), none⟩]) <|
  .block 6 (.loop c17l4)) <|
  .seq (.region 2 [⟨(some 136), .mov (.t 7), none⟩,
    ⟨(some 2), .mov (.t 136), none⟩]) <|
  .ret
def ir17 : IFn := ⟨137, [1, 9], 1, [.tmp 2], c17⟩
theorem ok17 : compFn prog [1, 9] [] f17 = some ir17 := by kernel_rfl
theorem wp17 {a0 : AV} {r : AV} (H : ∀ σ, WpI prog c17 (retQ [.tmp 2] fun v s => v = r ∧ s = σ) (argE [a0]) 0 σ) : Pure prog 17 [a0] r := @pure_of_wp prog hm 17 f17 [1, 9] [] ir17 [a0] r func17 ok17 (Nat.le_of_ble_eq_true rfl) H
theorem wa17 {a0 : AV} {σ : Heap} {R : AV → Heap → Prop} (H : WpI prog c17 (retQ [.tmp 2] R) (argE [a0]) 0 σ) : CallsA prog 17 [a0] σ R := @callsA_of_wp prog [1, 9] hm 17 f17 [] ir17 [a0] σ R func17 ok17 (Nat.le_of_ble_eq_true rfl) H


/-- A transaction laid in its place. -/
def insT (x : Txn) : List Txn → List Txn
  | [] => [x]
  | y :: l => if cmpTxn y x < 0 then y :: insT x l else x :: y :: l
def sortIns (l : List Txn) : List Txn := l.foldl (fun acc x => insT x acc) []

theorem insT_at (x : Txn) (m : List Txn) (at_ : Nat) (hlt : ∀ q (hq : q < m.length), q < at_ → cmpTxn m[q] x < 0) (hle : at_ ≤ m.length) (hend : at_ < m.length → ∀ h : at_ < m.length, ¬ cmpTxn m[at_] x < 0) :
    insT x m = m.take at_ ++ x :: m.drop at_ := by
  induction m generalizing at_ with
  | nil => simp at hle; subst hle; rfl
  | cons y l ih =>
    cases at_ with
    | zero =>
      have := hend (by simp) (by simp)
      simp only [List.getElem_cons_zero] at this
      simp [insT, this]
    | succ k =>
      have h0 := hlt 0 (by simp) (by omega)
      simp only [List.getElem_cons_zero] at h0
      simp only [insT, h0, if_true, List.take_succ_cons, List.drop_succ_cons, List.cons_append]
      rw [ih k (fun q hq hk => by have := hlt (q + 1) (by simpa using hq) (by omega); simpa using this) (by simpa using hle) (fun h1 h2 => by have := hend (by simpa using h1) (by simpa using h2); simpa using this)]

theorem insT_len (x : Txn) (m : List Txn) : (insT x m).length = m.length + 1 := by
  induction m with
  | nil => rfl
  | cons y l ih => unfold insT; split <;> simp [ih]

theorem sortIns_take (l : List Txn) (i : Nat) (h : i < l.length) : sortIns (l.take (i + 1)) = insT l[i] (sortIns (l.take i)) := by
  unfold sortIns; rw [List.take_succ_eq_append_getElem h, List.foldl_append]; rfl

/-- The place at which x stands. -/
def AtOf (x : Txn) (m : List Txn) (k : Nat) : Prop := k ≤ m.length ∧ (∀ q (hq : q < m.length), q < k → cmpTxn m[q] x < 0) ∧ ∀ h : k < m.length, ¬ cmpTxn m[k] x < 0

theorem l0_spec {σ : Heap} {s : State} {Q : IPost} {e : Env} {n c i : Nat} {m : List Txn} (hm : m.length ≤ 1000000) (hi : i < s.Txns.length) (hl : s.Txns.length ≤ 1000000)
    (h1 : e 1 = .box 0 (encState s)) (h3 : e 3 = .row 6 c 0 m.length) (h4 : e 4 = .int i) (h5 : e 5 = .int 0)
    (hQ : ∀ e' n' k, agree (written c17l0) e e' → e' 5 = .int (k : Nat) → AtOf s.Txns[i] m k → Q .normal e' n' (upd σ c (some (.row 6 (m.map encTxn))))) :
    LoopK prog c17l0 (blkQ 2 Q) e n (upd σ c (some (.row 6 (m.map encTxn)))) .mk .mk .mk .mk .mk := by
  refine loop_p m.length (fun j e => e 5 = .int j ∧ ∀ q (hq : q < m.length), q < j → cmpTxn m[q] s.Txns[i] < 0) 0 (by omega) ⟨h5, fun q hq h => by omega⟩ ?_
  rintro j e1 n1 hj ha ⟨h5', hq⟩
  have g1 := ha 1 (by decide)
  have g3 := ha 3 (by decide)
  have g4 := ha 4 (by decide)
  simp only [h1, h3, h4] at g1 g3 g4
  unfold c17l0
  by_cases hlt : j < m.length
  · repeat' (first
      | (with_reducible refine CallG.pure (k_r12_Compare _ _) ?_)
      | (with_reducible refine CallQ.pure (k_r12_Compare _ _) ?_)
      | (with_reducible refine condD (fun _ => ?_) (fun _ => ?_)) <;> try (exfalso; omega)
      | (with_reducible refine condB (fun _ => ?_) (fun _ => ?_))
      | (with_reducible refine guardD (fun _ => ?_) (fun _ => ?_)) <;> try (exfalso; omega)
      | (with_reducible refine guardB (fun _ => ?_) (fun _ => ?_))
      | (with_reducible refine app_row (by assumption) src_lst (by simp only [List.length_map, List.length_append, List.length_cons, List.length_nil]; omega) (by simp only [List.length_map, List.length_append, List.length_cons, List.length_nil]; omega) (fun _ _ => ?_))
      | (simp -dsimp (disch := first | omega | assumption) only [↓PB, ↓reduceIte, QB, QC, QD, QE, Nat.reduceAdd, Nat.reduceMul, Nat.reduceEqDiff, Nat.reduceLT, Nat.reduceLeDiff, reduceCtorEq, QF, QG, QH, QI, QJ, *]))
    · refine ⟨by simp, fun q hq' hqj => ?_⟩
      rcases Nat.lt_or_ge q j with h | h
      · exact hq q hq' h
      · obtain rfl : q = j := by omega
        assumption
    · refine hQ _ _ j ?_ (by simp -dsimp (disch := first | omega | assumption) only [↓PB, ↓reduceIte, QB, QC, QD, QE, Nat.reduceAdd, Nat.reduceMul, Nat.reduceEqDiff, Nat.reduceLT, Nat.reduceLeDiff, reduceCtorEq, QF, QG, QH, QI, QJ, *]) ⟨hj, hq, fun _ => by assumption⟩
      repeat (refine agree_put (by decide) ?_)
      exact ha
  · repeat' (first
      | (with_reducible refine condD (fun _ => ?_) (fun _ => ?_)) <;> try (exfalso; omega)
      | (with_reducible refine condB (fun _ => ?_) (fun _ => ?_))
      | (with_reducible refine guardD (fun _ => ?_) (fun _ => ?_)) <;> try (exfalso; omega)
      | (with_reducible refine guardB (fun _ => ?_) (fun _ => ?_))
      | (with_reducible refine app_row (by assumption) src_lst (by simp only [List.length_map, List.length_append, List.length_cons, List.length_nil]; omega) (by simp only [List.length_map, List.length_append, List.length_cons, List.length_nil]; omega) (fun _ _ => ?_))
      | (simp -dsimp (disch := first | omega | assumption) only [↓PB, ↓reduceIte, QB, QC, QD, QE, Nat.reduceAdd, Nat.reduceMul, Nat.reduceEqDiff, Nat.reduceLT, Nat.reduceLeDiff, reduceCtorEq, QF, QG, QH, QI, QJ, *]))
    refine hQ _ _ j ?_ (by simp -dsimp (disch := first | omega | assumption) only [↓PB, ↓reduceIte, QB, QC, QD, QE, Nat.reduceAdd, Nat.reduceMul, Nat.reduceEqDiff, Nat.reduceLT, Nat.reduceLeDiff, reduceCtorEq, QF, QG, QH, QI, QJ, *]) ⟨hj, hq, fun h => absurd h hlt⟩
    repeat (refine agree_put (by decide) ?_)
    exact ha

theorem shiftL {α : Type} (m : List α) (k : Nat) (z : α) (h0 : 0 < k) (hk : k ≤ m.length) (es : List α) (hes : m.take k ++ z :: m.drop k = es) (h : k - 1 < es.length) :
    es.set k es[k - 1] = m.take (k - 1) ++ (m[k - 1]'(by omega)) :: m.drop (k - 1) := by
  have h1 : m.take k = m.take (k - 1) ++ [m[k - 1]'(by omega)] := by
    have := List.take_succ_eq_append_getElem (l := m) (i := k - 1) (by omega)
    rwa [show k - 1 + 1 = k by omega] at this
  have h2 : m.drop (k - 1) = (m[k - 1]'(by omega)) :: m.drop k := by
    have := List.drop_eq_getElem_cons (l := m) (i := k - 1) (by omega)
    rwa [show k - 1 + 1 = k by omega] at this
  have hl : (m.take (k - 1)).length = k - 1 := by rw [List.length_take]; omega
  have he : es[k - 1] = m[k - 1]'(by omega) := by
    subst hes
    rw [List.getElem_append_left (by rw [List.length_take]; omega), List.getElem_take]
  rw [he, ← hes, h1, h2, List.append_assoc, List.set_append_right _ _ (by omega), hl, show k - (k - 1) = 1 by omega]
  rfl

/-- What is moved by one place, from the end on. -/
theorem l1_spec {σ : Heap} {Q : IPost} {e : Env} {n c k0 : Nat} {m : List Txn} {x : Txn} (hm : m.length ≤ 1000000) (hk : k0 ≤ m.length)
    (h3 : e 3 = .row 6 c 0 (m.length + 1)) (h5 : e 5 = .int k0) (h6 : e 6 = .int m.length)
    (hQ : ∀ e' n' z, agree (written c17l1) e e' → Q .normal e' n' (upd σ c (some (.row 6 ((m.take k0 ++ z :: m.drop k0).map encTxn))))) :
    LoopK prog c17l1 (blkQ 4 Q) e n (upd σ c (some (.row 6 ((m ++ [x]).map encTxn)))) .mk .mk .mk .mk .mk := by
  refine loop_c c 6 (fun k es e => k0 ≤ k ∧ k ≤ m.length ∧ e 6 = .int k ∧ ∃ z, es = (m.take k ++ z :: m.drop k).map encTxn) m.length ⟨hk, Nat.le_refl _, h6, x, by simp⟩ ?_
  rintro k e1 n1 es ha ⟨hk0, hkm, h6', z, rfl⟩
  have g3 := ha 3 (by decide)
  have g5 := ha 5 (by decide)
  simp only [h3, h5] at g3 g5
  have hlen : (m.take k ++ z :: m.drop k).length = m.length + 1 := by simp; omega
  obtain ⟨es, hes⟩ : ∃ es, m.take k ++ z :: m.drop k = es := ⟨_, rfl⟩
  rw [hes] at hlen ⊢
  unfold c17l1
  by_cases hlt : k0 < k
  · repeat' (first
      | (with_reducible refine condD (fun _ => ?_) (fun _ => ?_)) <;> try (exfalso; omega)
      | (with_reducible refine condB (fun _ => ?_) (fun _ => ?_))
      | (with_reducible refine guardD (fun _ => ?_) (fun _ => ?_)) <;> try (exfalso; omega)
      | (with_reducible refine guardB (fun _ => ?_) (fun _ => ?_))
      | (with_reducible refine app_row (by assumption) src_lst (by simp only [List.length_map, List.length_append, List.length_cons, List.length_nil]; omega) (by simp only [List.length_map, List.length_append, List.length_cons, List.length_nil]; omega) (fun _ _ => ?_))
      | (simp -dsimp (disch := first | omega | assumption) only [↓PB, ↓reduceIte, QB, QC, QD, QE, Nat.reduceAdd, Nat.reduceMul, Nat.reduceEqDiff, Nat.reduceLT, Nat.reduceLeDiff, reduceCtorEq, QF, QG, QH, QI, QJ, *]))
    exact ⟨k - 1, _, by omega, rfl, by omega, by omega, by rw [show ((k - 1 : Nat) : Int) = (k : Int) - 1 by omega], _, by rw [shiftL m k z (by omega) hkm es hes (by omega)]⟩
  · repeat' (first
      | (with_reducible refine condD (fun _ => ?_) (fun _ => ?_)) <;> try (exfalso; omega)
      | (with_reducible refine condB (fun _ => ?_) (fun _ => ?_))
      | (with_reducible refine guardD (fun _ => ?_) (fun _ => ?_)) <;> try (exfalso; omega)
      | (with_reducible refine guardB (fun _ => ?_) (fun _ => ?_))
      | (with_reducible refine app_row (by assumption) src_lst (by simp only [List.length_map, List.length_append, List.length_cons, List.length_nil]; omega) (by simp only [List.length_map, List.length_append, List.length_cons, List.length_nil]; omega) (fun _ _ => ?_))
      | (simp -dsimp (disch := first | omega | assumption) only [↓PB, ↓reduceIte, QB, QC, QD, QE, Nat.reduceAdd, Nat.reduceMul, Nat.reduceEqDiff, Nat.reduceLT, Nat.reduceLeDiff, reduceCtorEq, QF, QG, QH, QI, QJ, *]))
    have hke : k = k0 := by omega
    subst hke
    rw [← hes]
    refine hQ _ _ z ?_
    repeat (refine agree_put (by decide) ?_)
    exact ha

theorem insT_perm (x : Txn) (m : List Txn) : (insT x m).Perm (x :: m) := by
  induction m with
  | nil => exact .refl _
  | cons y l ih =>
    unfold insT
    split
    · exact (ih.cons y).trans (.swap x y l)
    · exact .refl _
theorem sortIns_perm (l : List Txn) : (sortIns l).Perm l := by
  have : ∀ (l acc : List Txn), (l.foldl (fun acc x => insT x acc) acc).Perm (acc ++ l) := by
    intro l
    induction l with
    | nil => intro acc; simp
    | cons x l ih =>
      intro acc
      refine (ih (insT x acc)).trans ?_
      refine ((insT_perm x acc).append_right l).trans ?_
      exact (List.perm_middle).symm
  simpa [sortIns] using this l []
theorem sortIns_mem {l : List Txn} {x : Txn} (h : x ∈ sortIns l) : x ∈ l := (sortIns_perm l).mem_iff.1 h

def cntOps (l : List Opn) : Nat := (l.filter fun o => !opGone o).length
theorem cntOps_take (l : List Opn) (k : Nat) (h : k < l.length) : cntOps (l.take (k + 1)) = cntOps (l.take k) + (if opGone l[k] then 0 else 1) := by
  unfold cntOps
  rw [List.take_succ_eq_append_getElem h, List.filter_append, List.length_append]
  cases hg : opGone l[k] <;> simp [List.filter_cons, hg]
theorem cntOps_le (l : List Opn) (k : Nat) : cntOps (l.take k) ≤ k := Nat.le_trans (List.length_filter_le _ _) (by simp; omega)

theorem l3_spec {σ : Heap} {Q : IPost} {e : Env} {n c d N j st : Nat} {o : Blk} {m : List Txn} {r : Row} (hne : d ≠ c) (hj : j < m.length) (hjN : j < N) (hops : m[j].Ops.length ≤ 1000000) (hr : r.Ops = 0)
    (h3 : e 3 = .row 6 c 0 N) (h8 : e 8 = .int j) (h9 : e 9 = .box st (encRow r)) (h10 : e 10 = .int 0)
    (hQ : ∀ e' n', agree (written c17l3) e e' → e' 9 = .box st (encRow { r with Ops := (cntOps m[j].Ops : Nat) }) → Q .normal e' n' (upd (upd σ c (some (.row 6 (m.map encTxn)))) d (some o))) :
    LoopK prog c17l3 (blkQ 8 Q) e n (upd (upd σ c (some (.row 6 (m.map encTxn)))) d (some o)) .mk .mk .mk .mk .mk := by
  refine loop_p m[j].Ops.length (fun k e => e 10 = .int k ∧ e 9 = .box st (encRow { r with Ops := (cntOps (m[j].Ops.take k) : Nat) })) 0 (by omega) ⟨h10, by rw [h9, List.take_zero, show ((cntOps [] : Nat) : Int) = r.Ops by rw [hr]; rfl]⟩ ?_
  rintro k e1 n1 hk ha ⟨h10', h9'⟩
  have g3 := ha 3 (by decide)
  have g8 := ha 8 (by decide)
  simp only [h3, h8] at g3 g8
  have hc := cntOps_le m[j].Ops k
  unfold c17l3
  by_cases hlt : k < m[j].Ops.length
  · have hk1 := cntOps_take m[j].Ops k hlt
    repeat' (first
      | (with_reducible refine CallG.pure (k_r11_Gone _) ?_)
      | (with_reducible refine CallQ.pure (k_r11_Gone _) ?_)
      | (with_reducible refine condD (fun _ => ?_) (fun _ => ?_)) <;> try (exfalso; omega)
      | (with_reducible refine condB (fun _ => ?_) (fun _ => ?_))
      | (with_reducible refine guardD (fun _ => ?_) (fun _ => ?_)) <;> try (exfalso; omega)
      | (with_reducible refine guardB (fun _ => ?_) (fun _ => ?_))
      | (with_reducible refine app_row (by assumption) src_lst (by simp only [List.length_map, List.length_append, List.length_cons, List.length_nil]; omega) (by simp only [List.length_map, List.length_append, List.length_cons, List.length_nil]; omega) (fun _ _ => ?_))
      | (simp -dsimp (disch := first | omega | assumption) only [↓PB, ↓reduceIte, QB, QC, QD, QE, Nat.reduceAdd, Nat.reduceMul, Nat.reduceEqDiff, Nat.reduceLT, Nat.reduceLeDiff, reduceCtorEq, QF, QG, QH, QI, QJ, *]))
    · simp
    · exact ⟨by simp, by simp⟩
  · repeat' (first
      | (with_reducible refine condD (fun _ => ?_) (fun _ => ?_)) <;> try (exfalso; omega)
      | (with_reducible refine condB (fun _ => ?_) (fun _ => ?_))
      | (with_reducible refine guardD (fun _ => ?_) (fun _ => ?_)) <;> try (exfalso; omega)
      | (with_reducible refine guardB (fun _ => ?_) (fun _ => ?_))
      | (with_reducible refine app_row (by assumption) src_lst (by simp only [List.length_map, List.length_append, List.length_cons, List.length_nil]; omega) (by simp only [List.length_map, List.length_append, List.length_cons, List.length_nil]; omega) (fun _ _ => ?_))
      | (simp -dsimp (disch := first | omega | assumption) only [↓PB, ↓reduceIte, QB, QC, QD, QE, Nat.reduceAdd, Nat.reduceMul, Nat.reduceEqDiff, Nat.reduceLT, Nat.reduceLeDiff, reduceCtorEq, QF, QG, QH, QI, QJ, *]))
    rw [List.take_of_length_le (by omega)] at h9'
    refine hQ _ _ ?_ (by simp -dsimp (disch := first | omega | assumption) only [↓PB, ↓reduceIte, QB, QC, QD, QE, Nat.reduceAdd, Nat.reduceMul, Nat.reduceEqDiff, Nat.reduceLT, Nat.reduceLeDiff, reduceCtorEq, QF, QG, QH, QI, QJ, *])
    repeat (refine agree_put (by decide) ?_)
    exact ha

theorem k_r41_All (s : State) (hs : smState s) : Pure prog 17 [encState s] (encL 8 encRow ((sortIns s.Txns).map (rowOf_ s))) := by
  obtain ⟨hlen, hops, hu, _, hsl, _⟩ := hs
  refine wp17 fun σ => ?_
  unfold c17
  simp -dsimp (disch := first | omega | assumption) only [↓PB, ↓reduceIte, QB, QC, QD, QE, Nat.reduceAdd, Nat.reduceMul, Nat.reduceEqDiff, Nat.reduceLT, Nat.reduceLeDiff, reduceCtorEq, QF, QG, QH, QI, QJ]
  try simp -dsimp (disch := first | omega | assumption) only [↓PB, ↓reduceIte, QB, QC, QD, QE, Nat.reduceAdd, Nat.reduceMul, Nat.reduceEqDiff, Nat.reduceLT, Nat.reduceLeDiff, reduceCtorEq, QF, QG, QH, QI, QJ]
  refine loop_a s.Txns.length 3 6 (fun i es e => ∃ m : List Txn, es = m.map encTxn ∧ e 4 = .int i ∧ sortIns (s.Txns.take i) = m ∧ m.length = i) 0 (by omega) (by simp -dsimp (disch := first | omega | assumption) only [↓PB, ↓reduceIte, QB, QC, QD, QE, Nat.reduceAdd, Nat.reduceMul, Nat.reduceEqDiff, Nat.reduceLT, Nat.reduceLeDiff, reduceCtorEq, QF, QG, QH, QI, QJ, *]) (by decide) (fun x => ⟨[], rfl, by simp -dsimp (disch := first | omega | assumption) only [↓PB, ↓reduceIte, QB, QC, QD, QE, Nat.reduceAdd, Nat.reduceMul, Nat.reduceEqDiff, Nat.reduceLT, Nat.reduceLeDiff, reduceCtorEq, QF, QG, QH, QI, QJ, *] <;> rfl, rfl, rfl⟩) ?_
  rintro i e n c es hi hc ha h3 ⟨m, rfl, h4, hm, hml⟩
  have g1 := ha 1 (by decide)
  simp -dsimp (disch := first | omega | assumption) only [↓PB, ↓reduceIte, QB, QC, QD, QE, Nat.reduceAdd, Nat.reduceMul, Nat.reduceEqDiff, Nat.reduceLT, Nat.reduceLeDiff, reduceCtorEq, QF, QG, QH, QI, QJ, *] at g1
  clear ha
  unfold c17l2
  by_cases hlt : i < s.Txns.length
  · repeat' (first
      | (with_reducible refine condD (fun _ => ?_) (fun _ => ?_)) <;> try (exfalso; omega)
      | (with_reducible refine condB (fun _ => ?_) (fun _ => ?_))
      | (with_reducible refine guardD (fun _ => ?_) (fun _ => ?_)) <;> try (exfalso; omega)
      | (with_reducible refine guardB (fun _ => ?_) (fun _ => ?_))
      | (with_reducible refine app_row (by assumption) src_lst (by simp only [List.length_map, List.length_append, List.length_cons, List.length_nil]; omega) (by simp only [List.length_map, List.length_append, List.length_cons, List.length_nil]; omega) (fun _ _ => ?_))
      | (simp -dsimp (disch := first | omega | assumption) only [↓PB, ↓reduceIte, QB, QC, QD, QE, Nat.reduceAdd, Nat.reduceMul, Nat.reduceEqDiff, Nat.reduceLT, Nat.reduceLeDiff, reduceCtorEq, QF, QG, QH, QI, QJ, *]))
    refine l0_spec (m := m) (i := i) (s := s) (by omega) hlt hlen (by simp -dsimp (disch := first | omega | assumption) only [↓PB, ↓reduceIte, QB, QC, QD, QE, Nat.reduceAdd, Nat.reduceMul, Nat.reduceEqDiff, Nat.reduceLT, Nat.reduceLeDiff, reduceCtorEq, QF, QG, QH, QI, QJ, *]) (by simp -dsimp (disch := first | omega | assumption) only [↓PB, ↓reduceIte, QB, QC, QD, QE, Nat.reduceAdd, Nat.reduceMul, Nat.reduceEqDiff, Nat.reduceLT, Nat.reduceLeDiff, reduceCtorEq, QF, QG, QH, QI, QJ, *] <;> simp [hml]) (by simp -dsimp (disch := first | omega | assumption) only [↓PB, ↓reduceIte, QB, QC, QD, QE, Nat.reduceAdd, Nat.reduceMul, Nat.reduceEqDiff, Nat.reduceLT, Nat.reduceLeDiff, reduceCtorEq, QF, QG, QH, QI, QJ, *]) (by simp -dsimp (disch := first | omega | assumption) only [↓PB, ↓reduceIte, QB, QC, QD, QE, Nat.reduceAdd, Nat.reduceMul, Nat.reduceEqDiff, Nat.reduceLT, Nat.reduceLeDiff, reduceCtorEq, QF, QG, QH, QI, QJ, *] <;> rfl) ?_
    intro e' n' k hag h5 hat
    have f1 := hag 1 (by decide)
    have f3 := hag 3 (by decide)
    have f4 := hag 4 (by decide)
    clear hag
    simp -dsimp (disch := first | omega | assumption) only [↓PB, ↓reduceIte, QB, QC, QD, QE, Nat.reduceAdd, Nat.reduceMul, Nat.reduceEqDiff, Nat.reduceLT, Nat.reduceLeDiff, reduceCtorEq, QF, QG, QH, QI, QJ, *] at f1 f3 f4
    obtain ⟨hk, hat⟩ := hat
    repeat' (first
      | (with_reducible refine condD (fun _ => ?_) (fun _ => ?_)) <;> try (exfalso; omega)
      | (with_reducible refine condB (fun _ => ?_) (fun _ => ?_))
      | (with_reducible refine guardD (fun _ => ?_) (fun _ => ?_)) <;> try (exfalso; omega)
      | (with_reducible refine guardB (fun _ => ?_) (fun _ => ?_))
      | (with_reducible refine app_row (by assumption) src_lst (by simp only [List.length_map, List.length_append, List.length_cons, List.length_nil]; omega) (by simp only [List.length_map, List.length_append, List.length_cons, List.length_nil]; omega) (fun _ _ => ?_))
      | (simp -dsimp (disch := first | omega | assumption) only [↓PB, ↓reduceIte, QB, QC, QD, QE, Nat.reduceAdd, Nat.reduceMul, Nat.reduceEqDiff, Nat.reduceLT, Nat.reduceLeDiff, reduceCtorEq, QF, QG, QH, QI, QJ, *]))
    rename_i d hd
    have hmap : m.map encTxn ++ [encTxn s.Txns[i]] = (m ++ [s.Txns[i]]).map encTxn := by simp
    have hml1 : ((m ++ [s.Txns[i]]).map encTxn).length = m.length + 1 := by simp
    rw [hmap, hml1]
    refine l1_spec (m := m) (x := s.Txns[i]) (k0 := k) (by omega) hk (by simp -dsimp (disch := first | omega | assumption) only [↓PB, ↓reduceIte, QB, QC, QD, QE, Nat.reduceAdd, Nat.reduceMul, Nat.reduceEqDiff, Nat.reduceLT, Nat.reduceLeDiff, reduceCtorEq, QF, QG, QH, QI, QJ, *]) (by simp -dsimp (disch := first | omega | assumption) only [↓PB, ↓reduceIte, QB, QC, QD, QE, Nat.reduceAdd, Nat.reduceMul, Nat.reduceEqDiff, Nat.reduceLT, Nat.reduceLeDiff, reduceCtorEq, QF, QG, QH, QI, QJ, *]) (by simp -dsimp (disch := first | omega | assumption) only [↓PB, ↓reduceIte, QB, QC, QD, QE, Nat.reduceAdd, Nat.reduceMul, Nat.reduceEqDiff, Nat.reduceLT, Nat.reduceLeDiff, reduceCtorEq, QF, QG, QH, QI, QJ, *] <;> (congr 2; omega)) ?_
    intro e2 n2 z hag2
    have p1 := hag2 1 (by decide)
    have p3 := hag2 3 (by decide)
    have p4 := hag2 4 (by decide)
    have p5 := hag2 5 (by decide)
    clear hag2
    simp -dsimp (disch := first | omega | assumption) only [↓PB, ↓reduceIte, QB, QC, QD, QE, Nat.reduceAdd, Nat.reduceMul, Nat.reduceEqDiff, Nat.reduceLT, Nat.reduceLeDiff, reduceCtorEq, QF, QG, QH, QI, QJ, *] at p1 p3 p4 p5
    have hlz : (m.take k ++ z :: m.drop k).length = m.length + 1 := by simp; omega
    obtain ⟨es, hes⟩ : ∃ es, m.take k ++ z :: m.drop k = es := ⟨_, rfl⟩
    rw [hes] at hlz ⊢
    repeat' (first
      | (with_reducible refine condD (fun _ => ?_) (fun _ => ?_)) <;> try (exfalso; omega)
      | (with_reducible refine condB (fun _ => ?_) (fun _ => ?_))
      | (with_reducible refine guardD (fun _ => ?_) (fun _ => ?_)) <;> try (exfalso; omega)
      | (with_reducible refine guardB (fun _ => ?_) (fun _ => ?_))
      | (with_reducible refine app_row (by assumption) src_lst (by simp only [List.length_map, List.length_append, List.length_cons, List.length_nil]; omega) (by simp only [List.length_map, List.length_append, List.length_cons, List.length_nil]; omega) (fun _ _ => ?_))
      | (simp -dsimp (disch := first | omega | assumption) only [↓PB, ↓reduceIte, QB, QC, QD, QE, Nat.reduceAdd, Nat.reduceMul, Nat.reduceEqDiff, Nat.reduceLT, Nat.reduceLeDiff, reduceCtorEq, QF, QG, QH, QI, QJ, *]))
    have hset : es.set k s.Txns[i] = m.take k ++ s.Txns[i] :: m.drop k := by
      rw [← hes, List.set_append_right _ _ (by rw [List.length_take]; omega), List.length_take, show k - min k m.length = 0 by omega]; rfl
    have hins := insT_at s.Txns[i] m k (fun q hq hqk => hat.1 q hq hqk) hk (fun _ h => hat.2 h)
    refine ⟨d, _, hd, by simp; omega, rfl, _, rfl, by simp, ?_, by simp; omega⟩
    rw [sortIns_take _ _ hlt, hm, hins, hset]
  · repeat' (first
      | (with_reducible refine condD (fun _ => ?_) (fun _ => ?_)) <;> try (exfalso; omega)
      | (with_reducible refine condB (fun _ => ?_) (fun _ => ?_))
      | (with_reducible refine guardD (fun _ => ?_) (fun _ => ?_)) <;> try (exfalso; omega)
      | (with_reducible refine guardB (fun _ => ?_) (fun _ => ?_))
      | (with_reducible refine app_row (by assumption) src_lst (by simp only [List.length_map, List.length_append, List.length_cons, List.length_nil]; omega) (by simp only [List.length_map, List.length_append, List.length_cons, List.length_nil]; omega) (fun _ _ => ?_))
      | (simp -dsimp (disch := first | omega | assumption) only [↓PB, ↓reduceIte, QB, QC, QD, QE, Nat.reduceAdd, Nat.reduceMul, Nat.reduceEqDiff, Nat.reduceLT, Nat.reduceLeDiff, reduceCtorEq, QF, QG, QH, QI, QJ, *]))
    rw [List.take_of_length_le (by omega)] at hm
    rw [List.length_map] at h3
    refine loop_a m.length 7 8 (fun i es e => ∃ r : List Txn, es = r.map (fun t => encRow (rowOf_ s t)) ∧ e 8 = .int i ∧ m.take i = r ∧ r.length ≤ i) 0 (by omega) (by simp -dsimp (disch := first | omega | assumption) only [↓PB, ↓reduceIte, QB, QC, QD, QE, Nat.reduceAdd, Nat.reduceMul, Nat.reduceEqDiff, Nat.reduceLT, Nat.reduceLeDiff, reduceCtorEq, QF, QG, QH, QI, QJ, *]) (by decide) (fun x => ⟨[], rfl, by simp -dsimp (disch := first | omega | assumption) only [↓PB, ↓reduceIte, QB, QC, QD, QE, Nat.reduceAdd, Nat.reduceMul, Nat.reduceEqDiff, Nat.reduceLT, Nat.reduceLeDiff, reduceCtorEq, QF, QG, QH, QI, QJ, *] <;> rfl, rfl, by simp⟩) ?_
    rintro j e2 n2 c2 es2 hj hc2 ha2 h7 ⟨r, rfl, h8, hr, hrl⟩
    have p1 := ha2 1 (by decide)
    have p3 := ha2 3 (by decide)
    clear ha2
    simp -dsimp (disch := first | omega | assumption) only [↓PB, ↓reduceIte, QB, QC, QD, QE, Nat.reduceAdd, Nat.reduceMul, Nat.reduceEqDiff, Nat.reduceLT, Nat.reduceLeDiff, reduceCtorEq, QF, QG, QH, QI, QJ, *] at p1 p3
    have hne : c2 ≠ c := fun e => by rw [e, upd_same] at hc2; cases hc2
    unfold c17l4
    by_cases hltj : j < m.length
    · repeat' (first
        | (with_reducible refine condD (fun _ => ?_) (fun _ => ?_)) <;> try (exfalso; omega)
        | (with_reducible refine condB (fun _ => ?_) (fun _ => ?_))
        | (with_reducible refine guardD (fun _ => ?_) (fun _ => ?_)) <;> try (exfalso; omega)
        | (with_reducible refine guardB (fun _ => ?_) (fun _ => ?_))
        | (with_reducible refine app_row (by assumption) src_lst (by simp only [List.length_map, List.length_append, List.length_cons, List.length_nil]; omega) (by simp only [List.length_map, List.length_append, List.length_cons, List.length_nil]; omega) (fun _ _ => ?_))
        | (simp -dsimp (disch := first | omega | assumption) only [↓PB, ↓reduceIte, QB, QC, QD, QE, Nat.reduceAdd, Nat.reduceMul, Nat.reduceEqDiff, Nat.reduceLT, Nat.reduceLeDiff, reduceCtorEq, QF, QG, QH, QI, QJ, *]))
      have hoj := (hops m[j] (sortIns_mem (by rw [hm]; exact List.getElem_mem hltj))).1
      refine l3_spec (m := m) (j := j) (N := i) (st := n2 + 4 + 16) (r := ⟨m[j].D, m[j].User, m[j].Time, 0, 0, false, false⟩) hne hltj (by omega) hoj rfl (by simp -dsimp (disch := first | omega | assumption) only [↓PB, ↓reduceIte, QB, QC, QD, QE, Nat.reduceAdd, Nat.reduceMul, Nat.reduceEqDiff, Nat.reduceLT, Nat.reduceLeDiff, reduceCtorEq, QF, QG, QH, QI, QJ, *]) (by simp -dsimp (disch := first | omega | assumption) only [↓PB, ↓reduceIte, QB, QC, QD, QE, Nat.reduceAdd, Nat.reduceMul, Nat.reduceEqDiff, Nat.reduceLT, Nat.reduceLeDiff, reduceCtorEq, QF, QG, QH, QI, QJ, *]) (by simp -dsimp (disch := first | omega | assumption) only [↓PB, ↓reduceIte, QB, QC, QD, QE, Nat.reduceAdd, Nat.reduceMul, Nat.reduceEqDiff, Nat.reduceLT, Nat.reduceLeDiff, reduceCtorEq, QF, QG, QH, QI, QJ, *]) (by simp -dsimp (disch := first | omega | assumption) only [↓PB, ↓reduceIte, QB, QC, QD, QE, Nat.reduceAdd, Nat.reduceMul, Nat.reduceEqDiff, Nat.reduceLT, Nat.reduceLeDiff, reduceCtorEq, QF, QG, QH, QI, QJ, *] <;> rfl) ?_
      intro e3 n3 hag h9
      have q1 := hag 1 (by decide)
      have q3 := hag 3 (by decide)
      have q7 := hag 7 (by decide)
      have q8 := hag 8 (by decide)
      clear hag
      simp -dsimp (disch := first | omega | assumption) only [↓PB, ↓reduceIte, QB, QC, QD, QE, Nat.reduceAdd, Nat.reduceMul, Nat.reduceEqDiff, Nat.reduceLT, Nat.reduceLeDiff, reduceCtorEq, QF, QG, QH, QI, QJ, *] at q1 q3 q7 q8
      repeat' (first
        | (with_reducible refine CallG.pure (k_r08_Get _ _ (by omega)) ?_)
        | (with_reducible refine CallQ.pure (k_r08_Get _ _ (by omega)) ?_)
        | (with_reducible refine CallG.pure (k_r06_Has _ _ (by omega)) ?_)
        | (with_reducible refine CallQ.pure (k_r06_Has _ _ (by omega)) ?_)
        | (with_reducible refine condD (fun _ => ?_) (fun _ => ?_)) <;> try (exfalso; omega)
        | (with_reducible refine condB (fun _ => ?_) (fun _ => ?_))
        | (with_reducible refine guardD (fun _ => ?_) (fun _ => ?_)) <;> try (exfalso; omega)
        | (with_reducible refine guardB (fun _ => ?_) (fun _ => ?_))
        | (with_reducible refine app_row (by assumption) src_lst (by simp only [List.length_map, List.length_append, List.length_cons, List.length_nil]; omega) (by simp only [List.length_map, List.length_append, List.length_cons, List.length_nil]; omega) (fun _ _ => ?_))
        | (simp -dsimp (disch := first | omega | assumption) only [↓PB, ↓reduceIte, QB, QC, QD, QE, Nat.reduceAdd, Nat.reduceMul, Nat.reduceEqDiff, Nat.reduceLT, Nat.reduceLeDiff, reduceCtorEq, QF, QG, QH, QI, QJ, *]))
      rename_i d hd
      refine ⟨d, _, hd, rfl, rfl, r ++ [m[j]], ?_, by simp, by rw [List.take_succ_eq_append_getElem hltj, hr], by simp; omega⟩
      rw [List.map_append]
      rfl
    · repeat' (first
        | (with_reducible refine condD (fun _ => ?_) (fun _ => ?_)) <;> try (exfalso; omega)
        | (with_reducible refine condB (fun _ => ?_) (fun _ => ?_))
        | (with_reducible refine guardD (fun _ => ?_) (fun _ => ?_)) <;> try (exfalso; omega)
        | (with_reducible refine guardB (fun _ => ?_) (fun _ => ?_))
        | (with_reducible refine app_row (by assumption) src_lst (by simp only [List.length_map, List.length_append, List.length_cons, List.length_nil]; omega) (by simp only [List.length_map, List.length_append, List.length_cons, List.length_nil]; omega) (fun _ _ => ?_))
        | (simp -dsimp (disch := first | omega | assumption) only [↓PB, ↓reduceIte, QB, QC, QD, QE, Nat.reduceAdd, Nat.reduceMul, Nat.reduceEqDiff, Nat.reduceLT, Nat.reduceLeDiff, reduceCtorEq, QF, QG, QH, QI, QJ, *]))
      have hrm : r = m := by rw [← hr]; exact List.take_of_length_le (by omega)
      subst hrm
      have := ret_row2 (σ := σ) (l := .mk) (l' := .mk) (es := r.map fun t => encRow (rowOf_ s t)) (sz := 8) (R := fun v s_1 => v = encL 8 encRow (List.map (rowOf_ s) (sortIns s.Txns)) ∧ s_1 = σ) hc hc2 ⟨by rw [hm]; simp [encL], rfl⟩
      exact this
end Go.Av

