/- HistoryParts holds for every input: the tied card's statement, with no condition beyond the row's own. -/
import Derived.Test.YtjnenmbfojkoeaaGreatDoorVbl
set_option linter.unusedSimpArgs false
set_option linter.unusedVariables false
set_option linter.defProp false
namespace Go.Av
open Go.Proofs.Tryz
set_option maxRecDepth 100000
set_option linter.unusedSimpArgs false
set_option linter.unusedVariables false

/- l41.HistoryParts -/
def cz4l0 : ICode :=
  .seq (.seq (.region 4 [⟨(some 32), .mov (.t 16), none⟩,
    ⟨(some 33), .mov (.t 9), none⟩,
    ⟨(some 34), .len (.t 33), none⟩,
    ⟨(some 35), .bin .lss (.t 32) (.t 34), none⟩]) <|
  .cond (.t 35) (.skip) (.exit 0)) <|
  .seq (.block 1 (.seq (.region 6 [⟨(some 38), .mov (.t 9), none⟩,
    ⟨(some 39), .mov (.t 16), none⟩,
    ⟨(some 40), .iaddrS 8 (.t 38) (.t 39), none⟩,
    ⟨(some 41), .load none 8 true (.t 40), none⟩,
    ⟨(some 17), .nbox 4 (.agg [(.int 0), (.int 0), (.int 0), (.int 0), (.int 0), (.int 0), (.bool false), (.bool false)]), none⟩,
    ⟨none, .store (some 17) 8 (.b 17) (.t 41), none⟩]) <|
  .seq (.seq (.region 4 [⟨(some 42), .faddr (some 17) 2 (.b 17), none⟩,
    ⟨(some 43), .load (some 17) 1 false (.t 42), none⟩,
    ⟨(some 44), .mov (.t 1), none⟩,
    ⟨(some 45), .bin .eql (.t 43) (.t 44), none⟩]) <|
  .cond (.t 45) (.seq (.seq (.region 12 [⟨(some 46), .mov (.t 12), none⟩,
    ⟨(some 47), .mov (.t 10), none⟩,
    ⟨(some 48), .len (.t 47), none⟩,
    ⟨(some 49), .bin .geq (.t 46) (.t 48), none⟩,
    ⟨(some 50), .mov (.t 49), none⟩,
    ⟨(some 51), .mov (.t 10), (some (50, false))⟩,
    ⟨(some 52), .mov (.t 12), (some (50, false))⟩,
    ⟨(some 53), .iaddrS 8 (.t 51) (.t 52), (some (50, false))⟩,
    ⟨(some 54), .load none 8 true (.t 53), (some (50, false))⟩,
    ⟨(some 55), .load (some 17) 8 true (.b 17), (some (50, false))⟩,
    ⟨(some 56), .eql true [.int .i64, .int .i64, .int .i64, .int .i64, .int .i64, .int .i64, .bool, .bool] (.t 54) (.t 55), (some (50, false))⟩,
    ⟨(some 57), .pick (.t 50) (.c (.bool true)) (.t 56), none⟩]) <|
  .cond (.t 57) (.seq (.region 1 [⟨(some 8), .mov (.c (.bool false)), none⟩]) <|
  .ret) (.skip)) <|
  .seq (.region 3 [⟨(some 58), .mov (.t 12), none⟩,
    ⟨(some 59), .bin .add (.t 58) (.c (.int 1)), none⟩,
    ⟨(some 12), .mov (.t 59), none⟩]) <|
  .seq (.region 2 [⟨(some 60), .faddr (some 17) 6 (.b 17), none⟩,
    ⟨(some 61), .load (some 17) 1 false (.t 60), none⟩]) <|
  .cond (.t 61) (.region 3 [⟨(some 62), .mov (.t 14), none⟩,
    ⟨(some 63), .bin .add (.t 62) (.c (.int 1)), none⟩,
    ⟨(some 14), .mov (.t 63), none⟩]) (.region 3 [⟨(some 64), .mov (.t 15), none⟩,
    ⟨(some 65), .bin .add (.t 64) (.c (.int 1)), none⟩,
    ⟨(some 15), .mov (.t 65), none⟩])) (.skip)) <|
  .seq (.region 10 [⟨(some 66), .faddr (some 17) 3 (.b 17), none⟩,
    ⟨(some 67), .load (some 17) 1 false (.t 66), none⟩,
    ⟨(some 68), .mov (.t 2), none⟩,
    ⟨(some 69), .bin .geq (.t 67) (.t 68), none⟩,
    ⟨(some 70), .mov (.t 69), none⟩,
    ⟨(some 71), .faddr (some 17) 3 (.b 17), (some (70, true))⟩,
    ⟨(some 72), .load (some 17) 1 false (.t 71), (some (70, true))⟩,
    ⟨(some 73), .mov (.t 3), (some (70, true))⟩,
    ⟨(some 74), .bin .leq (.t 72) (.t 73), (some (70, true))⟩,
    ⟨(some 75), .pick (.t 70) (.t 74) (.c (.bool false)), none⟩]) <|
  .cond (.t 75) (.seq (.seq (.region 12 [⟨(some 76), .mov (.t 13), none⟩,
    ⟨(some 77), .mov (.t 11), none⟩,
    ⟨(some 78), .len (.t 77), none⟩,
    ⟨(some 79), .bin .geq (.t 76) (.t 78), none⟩,
    ⟨(some 80), .mov (.t 79), none⟩,
    ⟨(some 81), .mov (.t 11), (some (80, false))⟩,
    ⟨(some 82), .mov (.t 13), (some (80, false))⟩,
    ⟨(some 83), .iaddrS 8 (.t 81) (.t 82), (some (80, false))⟩,
    ⟨(some 84), .load none 8 true (.t 83), (some (80, false))⟩,
    ⟨(some 85), .load (some 17) 8 true (.b 17), (some (80, false))⟩,
    ⟨(some 86), .eql true [.int .i64, .int .i64, .int .i64, .int .i64, .int .i64, .int .i64, .bool, .bool] (.t 84) (.t 85), (some (80, false))⟩,
    ⟨(some 87), .pick (.t 80) (.c (.bool true)) (.t 86), none⟩]) <|
  .cond (.t 87) (.seq (.region 1 [⟨(some 8), .mov (.c (.bool false)), none⟩]) <|
  .ret) (.skip)) <|
  .region 3 [⟨(some 88), .mov (.t 13), none⟩,
    ⟨(some 89), .bin .add (.t 88) (.c (.int 1)), none⟩,
    ⟨(some 13), .mov (.t 89), none⟩]) (.skip))) <|
  .region 3 [⟨(some 36), .mov (.t 16), none⟩,
    ⟨(some 37), .bin .add (.t 36) (.c (.int 1)), none⟩,
    ⟨(some 16), .mov (.t 37), none⟩]
def cz4 : ICode :=
  .seq (.region 2 [⟨(some 4), .bbox 0 (.t 0), none⟩,
    ⟨(some 8), .mov (.c (.bool false)), none⟩]) <|
  .seq (.seq (.region 3 [⟨(some 19), .load (some 4) 44 true (.b 4), none⟩,
    ⟨(some 20), .call (.c (.clo 14 [])) [(.t 19)], none⟩,
    ⟨(some 21), .un .not (.t 20), none⟩]) <|
  .cond (.t 21) (.seq (.region 2 [⟨(some 22), .call (.c (.clo 15 [])) [], none⟩,
    ⟨(some 8), .mov (.t 22), none⟩]) <|
  .ret) (.skip)) <|
  .seq (.region 3 [⟨(some 23), .load (some 4) 44 true (.b 4), none⟩,
    ⟨(some 24), .call (.c (.clo 16 [])) [(.t 23)], none⟩,
    ⟨(some 9), .mov (.t 24), none⟩]) <|
  .seq (.region 9 [⟨(some 25), .load (some 4) 44 true (.b 4), none⟩,
    ⟨(some 26), .mov (.t 1), none⟩,
    ⟨(some 27), .call (.c (.clo 23 [])) [(.t 25), (.t 26)], none⟩,
    ⟨(some 28), .mov (.t 9), none⟩,
    ⟨(some 29), .mov (.t 2), none⟩,
    ⟨(some 30), .mov (.t 3), none⟩,
    ⟨(some 31), .call (.c (.clo 24 [])) [(.t 28), (.t 29), (.t 30)], none⟩,
    ⟨(some 10), .mov (.t 27), none⟩,
    ⟨(some 11), .mov (.t 31), none⟩]) <|
  .seq (.region 4 [⟨(some 12), .mov (.c (.int 0)), none⟩,
    ⟨(some 13), .mov (.c (.int 0)), none⟩,
    ⟨(some 14), .mov (.c (.int 0)), none⟩,
    ⟨(some 15), .mov (.c (.int 0)), none⟩]) <|
  .seq (.seq (.region 1 [⟨(some 16), .mov (.c (.int 0)), none⟩]) <|
  .block 0 (.loop cz4l0)) <|
  .seq (.region 4 [⟨(some 90), .mov (.t 9), none⟩,
    ⟨(some 91), .call (.c (.clo 25 [])) [(.t 90)], none⟩,
    ⟨(some 18), .nbox 2 (.agg [(.int 0), (.int 0), (.int 0), (.int 0), (.int 0), (.int 0), (.int 0), (.int 0), (.int 0), (.int 0), (.int 0), (.int 0), (.int 0), (.int 0), (.int 0), (.int 0)]), none⟩,
    ⟨none, .store (some 18) 16 (.b 18) (.t 91), none⟩]) <|
  .seq (.seq (.region 15 [⟨(some 92), .mov (.t 1), none⟩,
    ⟨(some 93), .bin .geq (.t 92) (.c (.int 0)), none⟩,
    ⟨(some 94), .mov (.t 93), none⟩,
    ⟨(some 95), .mov (.t 1), (some (94, true))⟩,
    ⟨(some 96), .bin .lss (.t 95) (.c (.int 8)), (some (94, true))⟩,
    ⟨(some 97), .pick (.t 94) (.t 96) (.c (.bool false)), none⟩,
    ⟨(some 98), .mov (.t 97), none⟩,
    ⟨(some 99), .mov (.t 1), (some (98, true))⟩,
    ⟨(some 100), .iaddrA (some 18) 8 2 (.b 18) (.t 99), (some (98, true))⟩,
    ⟨(some 101), .load (some 18) 2 true (.t 100), (some (98, true))⟩,
    ⟨(some 102), .mov (.t 14), (some (98, true))⟩,
    ⟨(some 103), .mov (.t 15), (some (98, true))⟩,
    ⟨(some 104), .build (.agg [(.int 0), (.int 0)]) [(0, 1, (.t 102)), (1, 1, (.t 103))], (some (98, true))⟩,
    ⟨(some 105), .eql true [.int .i64, .int .i64] (.t 101) (.t 104), (some (98, true))⟩,
    ⟨(some 106), .pick (.t 98) (.t 105) (.c (.bool false)), none⟩]) <|
  .cond (.t 106) (.seq (.region 1 [⟨(some 8), .mov (.c (.bool false)), none⟩]) <|
  .ret) (.skip)) <|
  .seq (.region 14 [⟨(some 107), .mov (.t 12), none⟩,
    ⟨(some 108), .mov (.t 10), none⟩,
    ⟨(some 109), .len (.t 108), none⟩,
    ⟨(some 110), .bin .eql (.t 107) (.t 109), none⟩,
    ⟨(some 111), .mov (.t 110), none⟩,
    ⟨(some 112), .mov (.t 13), (some (111, true))⟩,
    ⟨(some 113), .mov (.t 11), (some (111, true))⟩,
    ⟨(some 114), .len (.t 113), (some (111, true))⟩,
    ⟨(some 115), .bin .eql (.t 112) (.t 114), (some (111, true))⟩,
    ⟨(some 116), .pick (.t 111) (.t 115) (.c (.bool false)), none⟩,
    ⟨(some 117), .mov (.t 116), none⟩,
    ⟨(some 118), .call (.c (.clo 15 [])) [], (some (117, true))⟩,
    ⟨(some 119), .pick (.t 117) (.t 118) (.c (.bool false)), none⟩,
    ⟨(some 8), .mov (.t 119), none⟩]) <|
  .ret
def ir4 : IFn := ⟨120, [4, 17, 18], 4, [.tmp 8], cz4⟩
theorem ok4 : compFn prog [4, 17, 18] [] f4 = some ir4 := by kernel_rfl
theorem wp4 {a0 a1 a2 a3 : AV} {r : AV} (H : ∀ σ, WpI prog cz4 (retQ [.tmp 8] fun v s => v = r ∧ s = σ) (argE [a0, a1, a2, a3]) 0 σ) : Pure prog 4 [a0, a1, a2, a3] r := @pure_of_wp prog hm 4 f4 [4, 17, 18] [] ir4 [a0, a1, a2, a3] r func4 ok4 (Nat.le_of_ble_eq_true rfl) H
theorem wa4 {a0 a1 a2 a3 : AV} {σ : Heap} {R : AV → Heap → Prop} (H : WpI prog cz4 (retQ [.tmp 8] R) (argE [a0, a1, a2, a3]) 0 σ) : CallsA prog 4 [a0, a1, a2, a3] σ R := @callsA_of_wp prog [4, 17, 18] hm 4 f4 [] ir4 [a0, a1, a2, a3] σ R func4 ok4 (Nat.le_of_ble_eq_true rfl) H


def cF (p : Row → Bool) (l : List Row) (i : Nat) : Nat := ((l.take i).filter p).length
theorem cF_succ {p : Row → Bool} {l : List Row} {i : Nat} (h : i < l.length) : cF p l (i + 1) = cF p l i + (if p l[i] then 1 else 0) := by
  unfold cF
  rw [List.take_succ_eq_append_getElem h, List.filter_append, List.length_append]
  cases hg : p l[i] <;> simp [List.filter_cons, hg]
theorem cF_le {p : Row → Bool} {l : List Row} {i : Nat} : cF p l i ≤ i := by
  have := List.length_filter_le p (l.take i)
  rw [List.length_take] at this
  unfold cF; omega
theorem cF_get {p : Row → Bool} {l : List Row} {i : Nat} (h : i < l.length) (hp : p l[i] = true) : ∃ hc : cF p l i < (l.filter p).length, (l.filter p)[cF p l i] = l[i] := by
  have h1 : l.filter p = (l.take i).filter p ++ (l[i] :: (l.drop (i + 1)).filter p) := by
    conv => lhs; rw [← List.take_append_drop i l, List.filter_append, List.drop_eq_getElem_cons h, List.filter_cons, if_pos hp]
  have hc : cF p l i < (l.filter p).length := by rw [h1]; simp [cF]
  refine ⟨hc, ?_⟩
  have : (l.filter p)[cF p l i]? = some l[i] := by
    rw [h1, List.getElem?_append_right (by simp [cF])]
    simp [cF]
  rw [List.getElem?_eq_getElem hc] at this
  exact Option.some.inj this

theorem vpd {v : Vec} {k : Nat} (h : k < 8) : AV.part (k * 2) 2 true (encVec v) = some (encDot ⟨v.at (k * 2), v.at (k * 2 + 1)⟩) := vpt2 h
theorem bud {x y : Int} : buildA (encDot ⟨0, 0⟩) [(0, 1, .int x), (1, 1, .int y)] = some (encDot ⟨x, y⟩) := rfl

def pM (u : Int) (r : Row) : Bool := decide (r.User = u)
def pB (a b : Int) (r : Row) : Bool := decide (a ≤ r.Time) && decide (r.Time ≤ b)
def pY (u : Int) (r : Row) : Bool := decide (r.User = u) && r.Counts
def pN (u : Int) (r : Row) : Bool := decide (r.User = u) && !r.Counts

theorem k_HistoryParts {σ : Heap} (h0 : Tab σ) (s : State) (hs : okState s) (u a b : Int) : PureAt prog 4 [encState s, .int u, .int a, .int b] σ (.bool true) := by
  refine wa4 ?_
  unfold cz4
  try simp -dsimp (disch := first | omega | assumption) only [↓PB, ↓reduceIte, QB, QC, QD, QE, Nat.reduceAdd, Nat.reduceMul, Nat.reduceEqDiff, Nat.reduceLT, Nat.reduceLeDiff, reduceCtorEq, QF, QG, QH, QI, QJ]
  repeat' (first
    | (with_reducible refine CallG.pure (k_r22_Good s hs) ?_)
    | (with_reducible refine CallQ.pure (k_r22_Good s hs) ?_)
    | (refine CallG.at (k_l41_awake h0) ?_)
    | (with_reducible refine condD (fun _ => ?_) (fun _ => ?_)) <;> try (exfalso; omega)
    | (with_reducible refine condB (fun _ => ?_) (fun _ => ?_))
    | (with_reducible refine guardD (fun _ => ?_) (fun _ => ?_)) <;> try (exfalso; omega)
    | (with_reducible refine guardB (fun _ => ?_) (fun _ => ?_))
    | (with_reducible refine app_row (by assumption) src_lst (by simp only [List.length_map, List.length_append, List.length_cons, List.length_nil]; omega) (by simp only [List.length_map, List.length_append, List.length_cons, List.length_nil]; omega) (fun _ _ => ?_))
    | (simp -dsimp (disch := first | omega | assumption) only [↓PB, ↓reduceIte, QB, QC, QD, QE, Nat.reduceAdd, Nat.reduceMul, Nat.reduceEqDiff, Nat.reduceLT, Nat.reduceLeDiff, reduceCtorEq, QF, QG, QH, QI, QJ, *]))
  · rename_i hg
    have hlen : (histOf s).length ≤ 1000000 := by
      rw [histOf, List.length_map, (sortIns_perm _).length_eq]; exact (stateGood_tx hg).2.2.2.1
    have kH := k_historyAll' h0 s hg
    have kO := k_historyOf h0 s hg u
    have kB := k_historyBetween (σ := σ) (histOf s) hlen a b
    obtain ⟨v, hv, kU⟩ := k_historyUsers (histOf s) hlen
    change PureAt prog _ _ σ (encL 8 encRow ((histOf s).filter (pM u))) at kO
    change PureAt prog _ _ σ (encL 8 encRow ((histOf s).filter (pB a b))) at kB
    generalize histOf s = L at *
    obtain ⟨M, hM⟩ : ∃ M, L.filter (pM u) = M := ⟨_, rfl⟩
    obtain ⟨B, hB⟩ : ∃ B, L.filter (pB a b) = B := ⟨_, rfl⟩
    rw [hM] at kO
    rw [hB] at kB
    repeat' (first
      | (refine CallG.at kH ?_)
      | (refine CallG.at kO ?_)
      | (refine CallG.at kB ?_)
      | (with_reducible refine condD (fun _ => ?_) (fun _ => ?_)) <;> try (exfalso; omega)
      | (with_reducible refine condB (fun _ => ?_) (fun _ => ?_))
      | (with_reducible refine guardD (fun _ => ?_) (fun _ => ?_)) <;> try (exfalso; omega)
      | (with_reducible refine guardB (fun _ => ?_) (fun _ => ?_))
      | (with_reducible refine app_row (by assumption) src_lst (by simp only [List.length_map, List.length_append, List.length_cons, List.length_nil]; omega) (by simp only [List.length_map, List.length_append, List.length_cons, List.length_nil]; omega) (fun _ _ => ?_))
      | (simp -dsimp (disch := first | omega | assumption) only [↓PB, ↓reduceIte, QB, QC, QD, QE, Nat.reduceAdd, Nat.reduceMul, Nat.reduceEqDiff, Nat.reduceLT, Nat.reduceLeDiff, reduceCtorEq, QF, QG, QH, QI, QJ, *]))
    refine loop_p L.length (fun i e => e 16 = .int i ∧ e 12 = .int (cF (pM u) L i : Nat) ∧ e 13 = .int (cF (pB a b) L i : Nat) ∧ e 14 = .int (cF (pY u) L i : Nat) ∧ e 15 = .int (cF (pN u) L i : Nat)) 0 (by omega) ⟨by simp -dsimp (disch := first | omega | assumption) only [↓PB, ↓reduceIte, QB, QC, QD, QE, Nat.reduceAdd, Nat.reduceMul, Nat.reduceEqDiff, Nat.reduceLT, Nat.reduceLeDiff, reduceCtorEq, QF, QG, QH, QI, QJ, *] <;> rfl, by simp -dsimp (disch := first | omega | assumption) only [↓PB, ↓reduceIte, QB, QC, QD, QE, Nat.reduceAdd, Nat.reduceMul, Nat.reduceEqDiff, Nat.reduceLT, Nat.reduceLeDiff, reduceCtorEq, QF, QG, QH, QI, QJ, *] <;> rfl, by simp -dsimp (disch := first | omega | assumption) only [↓PB, ↓reduceIte, QB, QC, QD, QE, Nat.reduceAdd, Nat.reduceMul, Nat.reduceEqDiff, Nat.reduceLT, Nat.reduceLeDiff, reduceCtorEq, QF, QG, QH, QI, QJ, *] <;> rfl, by simp -dsimp (disch := first | omega | assumption) only [↓PB, ↓reduceIte, QB, QC, QD, QE, Nat.reduceAdd, Nat.reduceMul, Nat.reduceEqDiff, Nat.reduceLT, Nat.reduceLeDiff, reduceCtorEq, QF, QG, QH, QI, QJ, *] <;> rfl, by simp -dsimp (disch := first | omega | assumption) only [↓PB, ↓reduceIte, QB, QC, QD, QE, Nat.reduceAdd, Nat.reduceMul, Nat.reduceEqDiff, Nat.reduceLT, Nat.reduceLeDiff, reduceCtorEq, QF, QG, QH, QI, QJ, *] <;> rfl⟩ ?_
    rintro i e n hi ha ⟨h16, h12, h13, h14, h15⟩
    have f1 := ha 1 (by decide)
    have f2 := ha 2 (by decide)
    have f3 := ha 3 (by decide)
    have f9 := ha 9 (by decide)
    have f10 := ha 10 (by decide)
    have f11 := ha 11 (by decide)
    have f4 := ha 4 (by decide)
    simp -dsimp (disch := first | omega | assumption) only [↓PB, ↓reduceIte, QB, QC, QD, QE, Nat.reduceAdd, Nat.reduceMul, Nat.reduceEqDiff, Nat.reduceLT, Nat.reduceLeDiff, reduceCtorEq, QF, QG, QH, QI, QJ, *] at f1 f2 f3 f4 f9 f10 f11
    clear ha
    have b1 := cF_le (p := pM u) (l := L) (i := i)
    have b2 := cF_le (p := pB a b) (l := L) (i := i)
    have b3 := cF_le (p := pY u) (l := L) (i := i)
    have b4 := cF_le (p := pN u) (l := L) (i := i)
    unfold cz4l0
    by_cases hlt : i < L.length
    · have c1 := cF_succ (p := pM u) hlt
      have c2 := cF_succ (p := pB a b) hlt
      have c3' := cF_succ (p := pY u) hlt
      have c4 := cF_succ (p := pN u) hlt
      have hbM : L[i].User = u → M[cF (pM u) L i]? = some L[i] ∧ cF (pM u) L i < M.length := fun hu => by
        obtain ⟨hc, hget⟩ := cF_get (p := pM u) hlt (by simp [pM, hu])
        exact ⟨by rw [← hM, List.getElem?_eq_getElem hc, hget], by rw [← hM]; exact hc⟩
      have hbB : pB a b L[i] = true → B[cF (pB a b) L i]? = some L[i] ∧ cF (pB a b) L i < B.length := fun hb => by
        obtain ⟨hc, hget⟩ := cF_get (p := pB a b) hlt hb
        exact ⟨by rw [← hB, List.getElem?_eq_getElem hc, hget], by rw [← hB]; exact hc⟩
      by_cases hu : L[i].User = u
      · obtain ⟨q1, q2⟩ := hbM hu
        rw [if_pos (by simp [pM, hu])] at c1
        by_cases hb : pB a b L[i] = true
        · obtain ⟨r1, r2⟩ := hbB hb
          rw [if_pos hb] at c2
          clear hbM hbB
          repeat' (first
            | (with_reducible refine condD (fun _ => ?_) (fun _ => ?_)) <;> try (exfalso; omega)
            | (with_reducible refine condB (fun _ => ?_) (fun _ => ?_))
            | (with_reducible refine guardD (fun _ => ?_) (fun _ => ?_)) <;> try (exfalso; omega)
            | (with_reducible refine guardB (fun _ => ?_) (fun _ => ?_))
            | (with_reducible refine app_row (by assumption) src_lst (by simp only [List.length_map, List.length_append, List.length_cons, List.length_nil]; omega) (by simp only [List.length_map, List.length_append, List.length_cons, List.length_nil]; omega) (fun _ _ => ?_))
            | (simp -dsimp (disch := first | omega | assumption) only [↓PB, ↓reduceIte, QB, QC, QD, QE, Nat.reduceAdd, Nat.reduceMul, Nat.reduceEqDiff, Nat.reduceLT, Nat.reduceLeDiff, reduceCtorEq, QF, QG, QH, QI, QJ, *]))
          all_goals first | (exfalso; simp [pB, *] at hb; done) | ((repeat' apply And.intro) <;> simp [c1, c2, c3', c4, pY, pN, *]; done)
        · rw [if_neg hb] at c2
          clear hbM hbB
          repeat' (first
            | (with_reducible refine condD (fun _ => ?_) (fun _ => ?_)) <;> try (exfalso; omega)
            | (with_reducible refine condB (fun _ => ?_) (fun _ => ?_))
            | (with_reducible refine guardD (fun _ => ?_) (fun _ => ?_)) <;> try (exfalso; omega)
            | (with_reducible refine guardB (fun _ => ?_) (fun _ => ?_))
            | (with_reducible refine app_row (by assumption) src_lst (by simp only [List.length_map, List.length_append, List.length_cons, List.length_nil]; omega) (by simp only [List.length_map, List.length_append, List.length_cons, List.length_nil]; omega) (fun _ _ => ?_))
            | (simp -dsimp (disch := first | omega | assumption) only [↓PB, ↓reduceIte, QB, QC, QD, QE, Nat.reduceAdd, Nat.reduceMul, Nat.reduceEqDiff, Nat.reduceLT, Nat.reduceLeDiff, reduceCtorEq, QF, QG, QH, QI, QJ, *]))
          all_goals first | (exfalso; simp [pB, *] at hb; done) | ((repeat' apply And.intro) <;> simp [c1, c2, c3', c4, pY, pN, *]; done)
      · rw [if_neg (by simp [pM, hu])] at c1
        by_cases hb : pB a b L[i] = true
        · obtain ⟨r1, r2⟩ := hbB hb
          rw [if_pos hb] at c2
          clear hbM hbB
          repeat' (first
            | (with_reducible refine condD (fun _ => ?_) (fun _ => ?_)) <;> try (exfalso; omega)
            | (with_reducible refine condB (fun _ => ?_) (fun _ => ?_))
            | (with_reducible refine guardD (fun _ => ?_) (fun _ => ?_)) <;> try (exfalso; omega)
            | (with_reducible refine guardB (fun _ => ?_) (fun _ => ?_))
            | (with_reducible refine app_row (by assumption) src_lst (by simp only [List.length_map, List.length_append, List.length_cons, List.length_nil]; omega) (by simp only [List.length_map, List.length_append, List.length_cons, List.length_nil]; omega) (fun _ _ => ?_))
            | (simp -dsimp (disch := first | omega | assumption) only [↓PB, ↓reduceIte, QB, QC, QD, QE, Nat.reduceAdd, Nat.reduceMul, Nat.reduceEqDiff, Nat.reduceLT, Nat.reduceLeDiff, reduceCtorEq, QF, QG, QH, QI, QJ, *]))
          all_goals first | (exfalso; simp [pB, *] at hb; done) | ((repeat' apply And.intro) <;> simp [c1, c2, c3', c4, pY, pN, *]; done)
        · rw [if_neg hb] at c2
          clear hbM hbB
          repeat' (first
            | (with_reducible refine condD (fun _ => ?_) (fun _ => ?_)) <;> try (exfalso; omega)
            | (with_reducible refine condB (fun _ => ?_) (fun _ => ?_))
            | (with_reducible refine guardD (fun _ => ?_) (fun _ => ?_)) <;> try (exfalso; omega)
            | (with_reducible refine guardB (fun _ => ?_) (fun _ => ?_))
            | (with_reducible refine app_row (by assumption) src_lst (by simp only [List.length_map, List.length_append, List.length_cons, List.length_nil]; omega) (by simp only [List.length_map, List.length_append, List.length_cons, List.length_nil]; omega) (fun _ _ => ?_))
            | (simp -dsimp (disch := first | omega | assumption) only [↓PB, ↓reduceIte, QB, QC, QD, QE, Nat.reduceAdd, Nat.reduceMul, Nat.reduceEqDiff, Nat.reduceLT, Nat.reduceLeDiff, reduceCtorEq, QF, QG, QH, QI, QJ, *]))
          all_goals first | (exfalso; simp [pB, *] at hb; done) | ((repeat' apply And.intro) <;> simp [c1, c2, c3', c4, pY, pN, *]; done)
    · have hiL : i = L.length := by omega
      have e1 : cF (pM u) L i = M.length := by rw [← hM, hiL]; simp [cF]
      have e2 : cF (pB a b) L i = B.length := by rw [← hB, hiL]; simp [cF]
      have e3 : 0 ≤ u → u < 8 → v.at (u.toNat * 2) = (cF (pY u) L i : Nat) := fun h h' => by
        rw [hv _ (by omega), hiL]
        simp only [cF, List.take_length, cntU]
        congr 2
        apply List.filter_congr
        intro x _
        rw [Bool.eq_iff_iff, isU, pY]
        have : ((u.toNat * 2 / 2 : Nat) : Int) = u := by omega
        simp [this]
        try (intro _; rw [Int.max_eq_left h])
      have e4 : 0 ≤ u → u < 8 → v.at (u.toNat * 2 + 1) = (cF (pN u) L i : Nat) := fun h h' => by
        rw [hv _ (by omega), hiL]
        simp only [cF, List.take_length, cntU]
        congr 2
        apply List.filter_congr
        intro x _
        rw [Bool.eq_iff_iff, isU, pN]
        have : (((u.toNat * 2 + 1) / 2 : Nat) : Int) = u := by omega
        have h2 : ¬ (u.toNat * 2 + 1) % 2 = 0 := by omega
        simp [this, h2]
      clear hiL b1 b2 b3 b4
      by_cases hu : 0 ≤ u ∧ u < 8
      · obtain ⟨hu0, hu8⟩ := hu
        have e3 := e3 hu0 hu8
        have e4 := e4 hu0 hu8
        rw [hv _ (by omega)] at e3 e4
        repeat' (first
          | (refine CallG.pure kU ?_)
          | (refine CallG.at (k_l41_awake h0) ?_)
          | (with_reducible refine condD (fun _ => ?_) (fun _ => ?_)) <;> try (exfalso; omega)
          | (with_reducible refine condB (fun _ => ?_) (fun _ => ?_))
          | (with_reducible refine guardD (fun _ => ?_) (fun _ => ?_)) <;> try (exfalso; omega)
          | (with_reducible refine guardB (fun _ => ?_) (fun _ => ?_))
          | (with_reducible refine app_row (by assumption) src_lst (by simp only [List.length_map, List.length_append, List.length_cons, List.length_nil]; omega) (by simp only [List.length_map, List.length_append, List.length_cons, List.length_nil]; omega) (fun _ _ => ?_))
          | (simp -dsimp (disch := first | omega | assumption) only [↓PB, ↓reduceIte, QB, QC, QD, QE, Nat.reduceAdd, Nat.reduceMul, Nat.reduceEqDiff, Nat.reduceLT, Nat.reduceLeDiff, reduceCtorEq, QF, QG, QH, QI, QJ, vwhole, vpd, bud, *]))
        all_goals exact RetG.same ⟨rfl, rfl⟩
      · clear e3 e4
        repeat' (first
          | (refine CallG.pure kU ?_)
          | (refine CallG.at (k_l41_awake h0) ?_)
          | (with_reducible refine condD (fun _ => ?_) (fun _ => ?_)) <;> try (exfalso; omega)
          | (with_reducible refine condB (fun _ => ?_) (fun _ => ?_))
          | (with_reducible refine guardD (fun _ => ?_) (fun _ => ?_)) <;> try (exfalso; omega)
          | (with_reducible refine guardB (fun _ => ?_) (fun _ => ?_))
          | (with_reducible refine app_row (by assumption) src_lst (by simp only [List.length_map, List.length_append, List.length_cons, List.length_nil]; omega) (by simp only [List.length_map, List.length_append, List.length_cons, List.length_nil]; omega) (fun _ _ => ?_))
          | (simp -dsimp (disch := first | omega | assumption) only [↓PB, ↓reduceIte, QB, QC, QD, QE, Nat.reduceAdd, Nat.reduceMul, Nat.reduceEqDiff, Nat.reduceLT, Nat.reduceLeDiff, reduceCtorEq, QF, QG, QH, QI, QJ, vwhole, vpd, bud, *]))
        all_goals exact RetG.same ⟨rfl, rfl⟩
  · exact RetG.same ⟨rfl, rfl⟩
end Go.Av

namespace Go.Av
open Go.ChangeShapes Go.WideShapes Go.ChangeAt Go.RowKit Go.Proofs.Tryz Go.Proofs.YtjnenmbfojkoeaaGreatDoor
set_option linter.unusedVariables false

set_option maxRecDepth 100000 in
theorem historyParts_lifted (os : Os) (started : os.Started) (H : Type) (enc : TypeId × Value → H) :
    ReturnsInHanded {} checked os 4 .any (fun w args => (Rows.historyPartsSpec.pre enc prog f4 Rows.historyPartsRow.domain false w args ∧ laidMetH prog Rows.historyPartsRow.laid w) ∧ sizedMet enc prog f4 (OpenSpec.ofChange Rows.historyPartsSpec) false w args)
      (Rows.historyPartsSpec.post enc prog f4 Rows.historyPartsRow.apart Rows.historyPartsRow.fresh Rows.historyPartsRow.handsOn Rows.historyPartsRow.again) := by
  refine returnsInHanded_of_change_and (C := checked) (X := fun w _ => laidMetH prog Rows.historyPartsRow.laid w) (fun _ _ _ hh h => h.of_heap hh) own started (by kernel_rfl) func4
    (ChangeSpec.witness_shaped (enc := enc) (C := checked) (os := os) (X := fun w _ => laidMetH prog Rows.historyPartsRow.laid w) false (World.laidAll prog os Rows.historyPartsRow.laid) #[zeroStateV, .int .i64 0, .int .i64 0, .int .i64 0] 20 (World.laidAll_os _ _ _)
      (World.shaped_of_ZipB (by kernel_rfl) (by kernel_rfl)) (by kernel_rfl) (by kernel_rfl) (by kernel_rfl)
      (by rw [MakeChecks.laidMetH_plain _ _ _ (by kernel_rfl)]; exact laidMet_laidAll _ (by kernel_rfl) (by kernel_rfl))) ?_
  intro W base args ds gs before hval0 hW hc _ hL _
  have hval : ∀ (j : Nat) t v, f4.params[j]? = some t → args[j]? = some v → Value.okWide prog W .any base t v := hval0
  have hW' := hW
  obtain ⟨p, q, hA0, hV, rfl, _, _⟩ := hW
  have hA : DataW.TrodAll enc prog W 0 (fun _ => true) true f4.params.toList args.toList ds p := hA0
  rw [params4] at hA hval
  obtain ⟨v0, vs0, d0, ds0, p0, q0, hargs, rfl, rfl, h0, r0⟩ := trodAll_cons hA
  obtain ⟨v1, vs1, d1, ds1, p1, q1, rfl, rfl, rfl, h1, r1⟩ := trodAll_cons r0
  obtain ⟨v2, vs2, d2, ds2, p2, q2, rfl, rfl, rfl, h2, r2⟩ := trodAll_cons r1
  obtain ⟨v3, vs3, d3, ds3, p3, q3, rfl, rfl, rfl, h3, r3⟩ := trodAll_cons r2
  obtain ⟨rfl, rfl, rfl⟩ := trodAll_nil r3
  obtain rfl : args = #[v0, v1, v2, v3] := by cases args; simp_all
  obtain ⟨rfl, rfl⟩ := trodVars_none hV
  obtain ⟨e, fr, hg⟩ := laid_pow hL
  obtain ⟨s, hs, ws⟩ := rv_struct (rp_State (enc := enc) (w := W)) h0 (fun a => by simp [encState, AV.cells])
  have k1 := h1
  have k2 := h2
  have k3 := h3
  obtain ⟨u, rfl, rfl, rfl, -⟩ := open_int underlying3 (hval 1 3 v1 rfl rfl) h1
  obtain ⟨a, rfl, rfl, rfl, -⟩ := open_int underlying3 (hval 2 3 v2 rfl rfl) h2
  obtain ⟨b, rfl, rfl, rfl, -⟩ := open_int underlying3 (hval 3 3 v3 rfl rfl) h3
  have hok := okState_of ws
  have fin := calls_top (P := prog) (f := 4) (aas := [encState s, .int u, .int a, .int b]) (x := .bool true) (vs := [v0, .int .i64 u, .int .i64 a, .int .i64 b]) (Go.Proofs.enters_of func4 (by kernel_rfl) rfl) hg
    (fun σ h => k_HistoryParts h s hok.1 u a b) ⟨rfl, fun i hi hj => match i, hi, hj with
      | 0, _, _ => hs
      | 1, _, _ | 2, _, _ | 3, _, _ => .sc _ rfl⟩
  have hlt : ∀ x ∈ p0, x.block < W.heap.size := fun x hx => hW'.lt x (by simp [hx])
  simp only [List.append_nil] at hW'
  refine fin.mono fun e W' ⟨he, hb⟩ => ?_
  subst he
  refine ⟨_, rfl, post_below (pa := p0) (pv := []) hW' (fun _ _ _ => trodAll_mk1 (shut_bool underlying4 _)) ?_ (fun _ _ => rfl) (by simp) hb (ok_one (by kernel_rfl) rfl (okWide_bool_mk underlying4 _))⟩
  intro sp hsp
  have j0 := WideElems.Trod_stays (sp' := sp) laidOut (by kernel_rfl) (of_decide_eq_true (by kernel_rfl)) h0 (fun x hx => hb.same (hlt x (by simp [hx]))) (fun x hx => hsp x (by simp [hx]))
  have j1 := WideElems.Trod_stays (W' := W') (sp' := sp) laidOut (by kernel_rfl) (of_decide_eq_true (by kernel_rfl)) k1 (fun x hx => by simp at hx) (fun x hx => by simp at hx)
  have j2 := WideElems.Trod_stays (W' := W') (sp' := sp) laidOut (by kernel_rfl) (of_decide_eq_true (by kernel_rfl)) k2 (fun x hx => by simp at hx) (fun x hx => by simp at hx)
  have j3 := WideElems.Trod_stays (W' := W') (sp' := sp) laidOut (by kernel_rfl) (of_decide_eq_true (by kernel_rfl)) k3 (fun x hx => by simp at hx) (fun x hx => by simp at hx)
  have := trodAll_cons_mk j0 (trodAll_cons_mk j1 (trodAll_cons_mk j2 (trodAll_mk1 j3)))
  simp only [List.append_nil] at this
  exact this
end Go.Av

namespace Go.Av
open Go.ChangeShapes Go.WideShapes Go.ChangeAt Go.RowKit Go.Proofs.Tryz Go.Proofs.YtjnenmbfojkoeaaGreatDoor
set_option linter.unusedVariables false
set_option maxRecDepth 100000

/-! The row's closed facts, one by one. -/
abbrev historyPartsC : OpenClaim := Rows.historyPartsRow
noncomputable abbrev seatP : Program := Tryz.pinned.checked.prog
theorem historyParts_j1 : (historyPartsC.wf (OpenSpec.ofChange Rows.historyPartsSpec)) = true := by kernel_rfl
theorem historyParts_j2 : (laidOutB seatP) = true := by kernel_rfl
theorem historyParts_j3 : (mapsRowed seatP) = true := by kernel_rfl
theorem historyParts_j4 : (f4.params.all (seatP.readableRec ·)) = true := by kernel_rfl
theorem historyParts_j5 : (namedTie seatP historyPartsC.named Rows.historyPartsSpec.vars) = true := by kernel_rfl
theorem historyParts_j6 : ((historyPartsC.stops == [])) = true := by kernel_rfl
theorem historyParts_j7 : ((seatP.stops == [])) = true := by kernel_rfl
theorem historyParts_j8 : ((historyPartsC.knobs == [])) = true := by kernel_rfl
theorem historyParts_j9 : ((seatP.stopKnobs == [])) = true := by kernel_rfl
theorem historyParts_j10 : ((historyPartsC.inPlace == seatP.inPlace 4)) = true := by kernel_rfl
theorem historyParts_j11 : ((historyPartsC.unfollowed == seatP.unfollowed 4)) = true := by kernel_rfl
theorem historyParts_j12 : ((historyPartsC.recurses == seatP.recurses 4)) = true := by kernel_rfl
theorem historyParts_j13 : ((historyPartsC.named == seatP.varsNamed 4)) = true := by kernel_rfl
theorem historyParts_j14 : ((historyPartsC.maps == (f4.params.toList ++ Rows.historyPartsSpec.plain.varTypes seatP).any (seatP.mapsRec ·))) = true := by kernel_rfl
theorem historyParts_j15 : ((historyPartsC.ifaces == (f4.params.toList ++ Rows.historyPartsSpec.plain.varTypes seatP).any (seatP.ifacesRec ·))) = true := by kernel_rfl
theorem historyParts_j16 : ((historyPartsC.mapsOut == seatP.mapsAmong f4.resultTypes.toList)) = true := by kernel_rfl
theorem historyParts_j17 : ((historyPartsC.loops == (f4.params.toList ++ Rows.historyPartsSpec.plain.varTypes seatP).any (seatP.loopsFrom ·))) = true := by kernel_rfl
theorem historyParts_j18 : ((historyPartsC.wideKeys == (f4.params.toList ++ Rows.historyPartsSpec.plain.varTypes seatP ++ f4.resultTypes.toList).any (seatP.wideKeysFrom ·))) = true := by kernel_rfl
theorem historyParts_j19 : (Rows.historyPartsSpec.vars.all (seatP.varReadable ·)) = true := by kernel_rfl
theorem historyParts_j20 : (f4.resultTypes.all (fun t => seatP.readableRec t && decide (t < seatP.types.size))) = true := by kernel_rfl
theorem historyParts_j21 : ((historyPartsC.ifacesOut == f4.resultTypes.toList.any (seatP.ifacesRec ·))) = true := by kernel_rfl
theorem historyParts_j22 : ((historyPartsC.loopsOut == f4.resultTypes.toList.any (seatP.loopsFrom ·))) = true := by kernel_rfl
theorem historyParts_j23 : ((historyPartsC.plainKeys == seatP.plainKeys)) = true := by kernel_rfl
theorem historyParts_j24 : (historyPartsC.shortTexts.isNone) = true := by kernel_rfl
theorem historyParts_j25 : (seatP.stopsHeard) = true := by kernel_rfl
theorem historyParts_j26 : (seatP.mayEnter) = true := by kernel_rfl
theorem historyParts_j27 : ((historyPartsC.lifted == seatP.liftsFinal)) = true := by kernel_rfl
theorem historyParts_j28 : ((seatP.make == some historyPartsC.make)) = true := by kernel_rfl
theorem historyParts_j29 : ((historyPartsC.kinds == (if historyPartsC.domain.isEmpty then [] else f4.params.toList.map fun t => match seatP.underlying t with | some (.int k) => some k | _ => none))) = true := by kernel_rfl
theorem historyParts_j30 : ((historyPartsC.pinned == historyPartsC.pinnedBy)) = true := by kernel_rfl
theorem historyParts_j31 : ((historyPartsC.veiled == (f4.params.toList ++ Rows.historyPartsSpec.plain.varTypes seatP ++ f4.resultTypes.toList).any (seatP.veiledRec ·))) = true := by kernel_rfl
theorem historyParts_j32 : (historyPartsC.veiledFits seatP f4.params.toList (f4.params.toList ++ Rows.historyPartsSpec.plain.varTypes seatP ++ f4.resultTypes.toList)) = true := by kernel_rfl
theorem and_t {a b : Bool} (h : a = true) (k : b = true) : (a && b) = true := by rw [h, k]; rfl
theorem historyParts_closed : joinedFacts Tryz.pinned.checked.prog 4 f4 Rows.historyPartsSpec Rows.historyPartsRow = true := (and_t (and_t (and_t (and_t (and_t (and_t (and_t (and_t (and_t (and_t (and_t (and_t (and_t (and_t (and_t (and_t (and_t (and_t (and_t (and_t (and_t (and_t (and_t (and_t (and_t (and_t (and_t (and_t (and_t (and_t (and_t historyParts_j1 historyParts_j2) historyParts_j3) historyParts_j4) historyParts_j5) historyParts_j6) historyParts_j7) historyParts_j8) historyParts_j9) historyParts_j10) historyParts_j11) historyParts_j12) historyParts_j13) historyParts_j14) historyParts_j15) historyParts_j16) historyParts_j17) historyParts_j18) historyParts_j19) historyParts_j20) historyParts_j21) historyParts_j22) historyParts_j23) historyParts_j24) historyParts_j25) historyParts_j26) historyParts_j27) historyParts_j28) historyParts_j29) historyParts_j30) historyParts_j31) historyParts_j32)
theorem historyParts_name : seatP.funcNamed historyPartsC.func = some 4 := by kernel_rfl
theorem historyParts_wf : historyPartsC.wfByText (OpenSpec.ofChange Rows.historyPartsSpec) = true := by kernel_rfl
theorem historyParts_main : seatP.mainIs = some (true, "10fe2a48d5badb2575ec12454e08267ef4132cd7c55266829f274ce0264a3388".toList) := by kernel_rfl
theorem historyParts_looks : false = seatP.looks [] := by kernel_rfl
theorem historyParts_goes : false = historyPartsC.goesBy seatP := by kernel_rfl
theorem historyParts_stand : ([31, 3, 3, 3].all fun u => !seatP.wantsStandIn u) = true := by kernel_rfl

theorem historyParts_holds : Rows.HistoryPartsSaid :=
  OpenClaim.holds_of_wide 4 f4 rfl rfl rfl rfl rfl rfl rfl ⟨rfl, rfl, rfl, rfl, rfl⟩ rfl rfl rfl rfl rfl historyParts_name func4 historyParts_closed
    (of_decide_eq_true (by kernel_rfl)) (by unfold Func.isWrapper; first | (rw [if_pos (by decide +kernel)]; kernel_rfl) | (rw [if_neg (by decide +kernel)]; exact ⟨rfl, rfl⟩))
    (fun os started H enc _ => historyParts_lifted os started H enc)

theorem historyParts_card : Rows.HistoryPartsCardSaid :=
  Claim7.holds_tied_plain_at .later [] [.data, .data, .data] true (true, "10fe2a48d5badb2575ec12454e08267ef4132cd7c55266829f274ce0264a3388") false historyParts_holds (fun _ h => by cases h) historyParts_wf (fun _ h => by cases h) historyParts_row_tie rfl ⟨rfl, rfl⟩ historyParts_main rfl
    (fun f fn hf hfn => by
      obtain rfl : f = 4 := Option.some.inj (historyParts_name.symm.trans hf) |>.symm
      obtain rfl : fn = f4 := (Option.some.inj (func4.symm.trans hfn)).symm
      exact ⟨historyParts_looks, fun j t ht => by
        rw [params4] at ht
        have hm : t ∈ [31, 3, 3, 3] := by simpa using Array.mem_of_getElem? ht
        have hall := historyParts_stand
        exact (show seatP.wantsStandIn t = false by simpa using List.all_eq_true.1 hall t hm)⟩)
    historyParts_goes
end Go.Av

namespace Go.Proofs.YtjnenmbfojkoeaaGreatDoor
/-- HistoryParts holds for every input: the tied card's statement, with no condition beyond the row's own. -/
theorem historyParts_card : Rows.HistoryPartsCardSaid := Go.Av.historyParts_card
#print axioms historyParts_card
end Go.Proofs.YtjnenmbfojkoeaaGreatDoor
