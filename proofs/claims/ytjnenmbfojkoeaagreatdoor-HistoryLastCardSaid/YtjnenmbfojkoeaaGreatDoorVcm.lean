/- HistoryLast holds for every input: the tied card's statement, with no condition beyond the row's own. -/
import Derived.Test.YtjnenmbfojkoeaaGreatDoorVcl
set_option linter.unusedSimpArgs false
set_option linter.unusedVariables false
set_option linter.defProp false
namespace Go.Av
open Go.Proofs.Tryz
set_option maxRecDepth 100000
set_option linter.unusedSimpArgs false
set_option linter.unusedVariables false

/- l41.HistoryParts -/
def cz4l0 : ICode :=
  .seq (.seq (.region 4 [⟨(some 32), .mov (.t 16), none⟩,
    ⟨(some 33), .mov (.t 9), none⟩,
    ⟨(some 34), .len (.t 33), none⟩,
    ⟨(some 35), .bin .lss (.t 32) (.t 34), none⟩]) <|
  .cond (.t 35) (.skip) (.exit 0)) <|
  .seq (.block 1 (.seq (.region 6 [⟨(some 38), .mov (.t 9), none⟩,
    ⟨(some 39), .mov (.t 16), none⟩,
    ⟨(some 40), .iaddrS 8 (.t 38) (.t 39), none⟩,
    ⟨(some 41), .load none 8 true (.t 40), none⟩,
    ⟨(some 17), .nbox 4 (.agg [(.int 0), (.int 0), (.int 0), (.int 0), (.int 0), (.int 0), (.bool false), (.bool false)]), none⟩,
    ⟨none, .store (some 17) 8 (.b 17) (.t 41), none⟩]) <|
  .seq (.seq (.region 4 [⟨(some 42), .faddr (some 17) 2 (.b 17), none⟩,
    ⟨(some 43), .load (some 17) 1 false (.t 42), none⟩,
    ⟨(some 44), .mov (.t 1), none⟩,
    ⟨(some 45), .bin .eql (.t 43) (.t 44), none⟩]) <|
  .cond (.t 45) (.seq (.seq (.region 12 [⟨(some 46), .mov (.t 12), none⟩,
    ⟨(some 47), .mov (.t 10), none⟩,
    ⟨(some 48), .len (.t 47), none⟩,
    ⟨(some 49), .bin .geq (.t 46) (.t 48), none⟩,
    ⟨(some 50), .mov (.t 49), none⟩,
    ⟨(some 51), .mov (.t 10), (some (50, false))⟩,
    ⟨(some 52), .mov (.t 12), (some (50, false))⟩,
    ⟨(some 53), .iaddrS 8 (.t 51) (.t 52), (some (50, false))⟩,
    ⟨(some 54), .load none 8 true (.t 53), (some (50, false))⟩,
    ⟨(some 55), .load (some 17) 8 true (.b 17), (some (50, false))⟩,
    ⟨(some 56), .eql true [.int .i64, .int .i64, .int .i64, .int .i64, .int .i64, .int .i64, .bool, .bool] (.t 54) (.t 55), (some (50, false))⟩,
    ⟨(some 57), .pick (.t 50) (.c (.bool true)) (.t 56), none⟩]) <|
  .cond (.t 57) (.seq (.region 1 [⟨(some 8), .mov (.c (.bool false)), none⟩]) <|
  .ret) (.skip)) <|
  .seq (.region 3 [⟨(some 58), .mov (.t 12), none⟩,
    ⟨(some 59), .bin .add (.t 58) (.c (.int 1)), none⟩,
    ⟨(some 12), .mov (.t 59), none⟩]) <|
  .seq (.region 2 [⟨(some 60), .faddr (some 17) 6 (.b 17), none⟩,
    ⟨(some 61), .load (some 17) 1 false (.t 60), none⟩]) <|
  .cond (.t 61) (.region 3 [⟨(some 62), .mov (.t 14), none⟩,
    ⟨(some 63), .bin .add (.t 62) (.c (.int 1)), none⟩,
    ⟨(some 14), .mov (.t 63), none⟩]) (.region 3 [⟨(some 64), .mov (.t 15), none⟩,
    ⟨(some 65), .bin .add (.t 64) (.c (.int 1)), none⟩,
    ⟨(some 15), .mov (.t 65), none⟩])) (.skip)) <|
  .seq (.region 10 [⟨(some 66), .faddr (some 17) 3 (.b 17), none⟩,
    ⟨(some 67), .load (some 17) 1 false (.t 66), none⟩,
    ⟨(some 68), .mov (.t 2), none⟩,
    ⟨(some 69), .bin .geq (.t 67) (.t 68), none⟩,
    ⟨(some 70), .mov (.t 69), none⟩,
    ⟨(some 71), .faddr (some 17) 3 (.b 17), (some (70, true))⟩,
    ⟨(some 72), .load (some 17) 1 false (.t 71), (some (70, true))⟩,
    ⟨(some 73), .mov (.t 3), (some (70, true))⟩,
    ⟨(some 74), .bin .leq (.t 72) (.t 73), (some (70, true))⟩,
    ⟨(some 75), .pick (.t 70) (.t 74) (.c (.bool false)), none⟩]) <|
  .cond (.t 75) (.seq (.seq (.region 12 [⟨(some 76), .mov (.t 13), none⟩,
    ⟨(some 77), .mov (.t 11), none⟩,
    ⟨(some 78), .len (.t 77), none⟩,
    ⟨(some 79), .bin .geq (.t 76) (.t 78), none⟩,
    ⟨(some 80), .mov (.t 79), none⟩,
    ⟨(some 81), .mov (.t 11), (some (80, false))⟩,
    ⟨(some 82), .mov (.t 13), (some (80, false))⟩,
    ⟨(some 83), .iaddrS 8 (.t 81) (.t 82), (some (80, false))⟩,
    ⟨(some 84), .load none 8 true (.t 83), (some (80, false))⟩,
    ⟨(some 85), .load (some 17) 8 true (.b 17), (some (80, false))⟩,
    ⟨(some 86), .eql true [.int .i64, .int .i64, .int .i64, .int .i64, .int .i64, .int .i64, .bool, .bool] (.t 84) (.t 85), (some (80, false))⟩,
    ⟨(some 87), .pick (.t 80) (.c (.bool true)) (.t 86), none⟩]) <|
  .cond (.t 87) (.seq (.region 1 [⟨(some 8), .mov (.c (.bool false)), none⟩]) <|
  .ret) (.skip)) <|
  .region 3 [⟨(some 88), .mov (.t 13), none⟩,
    ⟨(some 89), .bin .add (.t 88) (.c (.int 1)), none⟩,
    ⟨(some 13), .mov (.t 89), none⟩]) (.skip))) <|
  .region 3 [⟨(some 36), .mov (.t 16), none⟩,
    ⟨(some 37), .bin .add (.t 36) (.c (.int 1)), none⟩,
    ⟨(some 16), .mov (.t 37), none⟩]
def cz4 : ICode :=
  .seq (.region 2 [⟨(some 4), .bbox 0 (.t 0), none⟩,
    ⟨(some 8), .mov (.c (.bool false)), none⟩]) <|
  .seq (.seq (.region 3 [⟨(some 19), .load (some 4) 44 true (.b 4), none⟩,
    ⟨(some 20), .call (.c (.clo 14 [])) [(.t 19)], none⟩,
    ⟨(some 21), .un .not (.t 20), none⟩]) <|
  .cond (.t 21) (.seq (.region 2 [⟨(some 22), .call (.c (.clo 15 [])) [], none⟩,
    ⟨(some 8), .mov (.t 22), none⟩]) <|
  .ret) (.skip)) <|
  .seq (.region 3 [⟨(some 23), .load (some 4) 44 true (.b 4), none⟩,
    ⟨(some 24), .call (.c (.clo 16 [])) [(.t 23)], none⟩,
    ⟨(some 9), .mov (.t 24), none⟩]) <|
  .seq (.region 9 [⟨(some 25), .load (some 4) 44 true (.b 4), none⟩,
    ⟨(some 26), .mov (.t 1), none⟩,
    ⟨(some 27), .call (.c (.clo 23 [])) [(.t 25), (.t 26)], none⟩,
    ⟨(some 28), .mov (.t 9), none⟩,
    ⟨(some 29), .mov (.t 2), none⟩,
    ⟨(some 30), .mov (.t 3), none⟩,
    ⟨(some 31), .call (.c (.clo 24 [])) [(.t 28), (.t 29), (.t 30)], none⟩,
    ⟨(some 10), .mov (.t 27), none⟩,
    ⟨(some 11), .mov (.t 31), none⟩]) <|
  .seq (.region 4 [⟨(some 12), .mov (.c (.int 0)), none⟩,
    ⟨(some 13), .mov (.c (.int 0)), none⟩,
    ⟨(some 14), .mov (.c (.int 0)), none⟩,
    ⟨(some 15), .mov (.c (.int 0)), none⟩]) <|
  .seq (.seq (.region 1 [⟨(some 16), .mov (.c (.int 0)), none⟩]) <|
  .block 0 (.loop cz4l0)) <|
  .seq (.region 4 [⟨(some 90), .mov (.t 9), none⟩,
    ⟨(some 91), .call (.c (.clo 25 [])) [(.t 90)], none⟩,
    ⟨(some 18), .nbox 2 (.agg [(.int 0), (.int 0), (.int 0), (.int 0), (.int 0), (.int 0), (.int 0), (.int 0), (.int 0), (.int 0), (.int 0), (.int 0), (.int 0), (.int 0), (.int 0), (.int 0)]), none⟩,
    ⟨none, .store (some 18) 16 (.b 18) (.t 91), none⟩]) <|
  .seq (.seq (.region 15 [⟨(some 92), .mov (.t 1), none⟩,
    ⟨(some 93), .bin .geq (.t 92) (.c (.int 0)), none⟩,
    ⟨(some 94), .mov (.t 93), none⟩,
    ⟨(some 95), .mov (.t 1), (some (94, true))⟩,
    ⟨(some 96), .bin .lss (.t 95) (.c (.int 8)), (some (94, true))⟩,
    ⟨(some 97), .pick (.t 94) (.t 96) (.c (.bool false)), none⟩,
    ⟨(some 98), .mov (.t 97), none⟩,
    ⟨(some 99), .mov (.t 1), (some (98, true))⟩,
    ⟨(some 100), .iaddrA (some 18) 8 2 (.b 18) (.t 99), (some (98, true))⟩,
    ⟨(some 101), .load (some 18) 2 true (.t 100), (some (98, true))⟩,
    ⟨(some 102), .mov (.t 14), (some (98, true))⟩,
    ⟨(some 103), .mov (.t 15), (some (98, true))⟩,
    ⟨(some 104), .build (.agg [(.int 0), (.int 0)]) [(0, 1, (.t 102)), (1, 1, (.t 103))], (some (98, true))⟩,
    ⟨(some 105), .eql true [.int .i64, .int .i64] (.t 101) (.t 104), (some (98, true))⟩,
    ⟨(some 106), .pick (.t 98) (.t 105) (.c (.bool false)), none⟩]) <|
  .cond (.t 106) (.seq (.region 1 [⟨(some 8), .mov (.c (.bool false)), none⟩]) <|
  .ret) (.skip)) <|
  .seq (.region 14 [⟨(some 107), .mov (.t 12), none⟩,
    ⟨(some 108), .mov (.t 10), none⟩,
    ⟨(some 109), .len (.t 108), none⟩,
    ⟨(some 110), .bin .eql (.t 107) (.t 109), none⟩,
    ⟨(some 111), .mov (.t 110), none⟩,
    ⟨(some 112), .mov (.t 13), (some (111, true))⟩,
    ⟨(some 113), .mov (.t 11), (some (111, true))⟩,
    ⟨(some 114), .len (.t 113), (some (111, true))⟩,
    ⟨(some 115), .bin .eql (.t 112) (.t 114), (some (111, true))⟩,
    ⟨(some 116), .pick (.t 111) (.t 115) (.c (.bool false)), none⟩,
    ⟨(some 117), .mov (.t 116), none⟩,
    ⟨(some 118), .call (.c (.clo 15 [])) [], (some (117, true))⟩,
    ⟨(some 119), .pick (.t 117) (.t 118) (.c (.bool false)), none⟩,
    ⟨(some 8), .mov (.t 119), none⟩]) <|
  .ret
def ir4 : IFn := ⟨120, [4, 17, 18], 4, [.tmp 8], cz4⟩
theorem ok4 : compFn prog [4, 17, 18] [] f4 = some ir4 := by kernel_rfl
theorem wp4 {a0 a1 a2 a3 : AV} {r : AV} (H : ∀ σ, WpI prog cz4 (retQ [.tmp 8] fun v s => v = r ∧ s = σ) (argE [a0, a1, a2, a3]) 0 σ) : Pure prog 4 [a0, a1, a2, a3] r := @pure_of_wp prog hm 4 f4 [4, 17, 18] [] ir4 [a0, a1, a2, a3] r func4 ok4 (Nat.le_of_ble_eq_true rfl) H
theorem wa4 {a0 a1 a2 a3 : AV} {σ : Heap} {R : AV → Heap → Prop} (H : WpI prog cz4 (retQ [.tmp 8] R) (argE [a0, a1, a2, a3]) 0 σ) : CallsA prog 4 [a0, a1, a2, a3] σ R := @callsA_of_wp prog [4, 17, 18] hm 4 f4 [] ir4 [a0, a1, a2, a3] σ R func4 ok4 (Nat.le_of_ble_eq_true rfl) H


def cF (p : Row → Bool) (l : List Row) (i : Nat) : Nat := ((l.take i).filter p).length
theorem cF_succ {p : Row → Bool} {l : List Row} {i : Nat} (h : i < l.length) : cF p l (i + 1) = cF p l i + (if p l[i] then 1 else 0) := by
  unfold cF
  rw [List.take_succ_eq_append_getElem h, List.filter_append, List.length_append]
  cases hg : p l[i] <;> simp [List.filter_cons, hg]
theorem cF_le {p : Row → Bool} {l : List Row} {i : Nat} : cF p l i ≤ i := by
  have := List.length_filter_le p (l.take i)
  rw [List.length_take] at this
  unfold cF; omega
theorem cF_get {p : Row → Bool} {l : List Row} {i : Nat} (h : i < l.length) (hp : p l[i] = true) : ∃ hc : cF p l i < (l.filter p).length, (l.filter p)[cF p l i] = l[i] := by
  have h1 : l.filter p = (l.take i).filter p ++ (l[i] :: (l.drop (i + 1)).filter p) := by
    conv => lhs; rw [← List.take_append_drop i l, List.filter_append, List.drop_eq_getElem_cons h, List.filter_cons, if_pos hp]
  have hc : cF p l i < (l.filter p).length := by rw [h1]; simp [cF]
  refine ⟨hc, ?_⟩
  have : (l.filter p)[cF p l i]? = some l[i] := by
    rw [h1, List.getElem?_append_right (by simp [cF])]
    simp [cF]
  rw [List.getElem?_eq_getElem hc] at this
  exact Option.some.inj this

theorem vpd {v : Vec} {k : Nat} (h : k < 8) : AV.part (k * 2) 2 true (encVec v) = some (encDot ⟨v.at (k * 2), v.at (k * 2 + 1)⟩) := vpt2 h
theorem bud {x y : Int} : buildA (encDot ⟨0, 0⟩) [(0, 1, .int x), (1, 1, .int y)] = some (encDot ⟨x, y⟩) := rfl

def pM (u : Int) (r : Row) : Bool := decide (r.User = u)
def pB (a b : Int) (r : Row) : Bool := decide (a ≤ r.Time) && decide (r.Time ≤ b)
def pY (u : Int) (r : Row) : Bool := decide (r.User = u) && r.Counts
def pN (u : Int) (r : Row) : Bool := decide (r.User = u) && !r.Counts

theorem k_HistoryParts {σ : Heap} (h0 : Tab σ) (s : State) (hs : okState s) (u a b : Int) : PureAt prog 4 [encState s, .int u, .int a, .int b] σ (.bool true) := by
  refine wa4 ?_
  unfold cz4
  try simp -dsimp (disch := first | omega | assumption) only [↓PB, ↓reduceIte, QB, QC, QD, QE, Nat.reduceAdd, Nat.reduceMul, Nat.reduceEqDiff, Nat.reduceLT, Nat.reduceLeDiff, reduceCtorEq, QF, QG, QH, QI, QJ]
  repeat' (first
    | (with_reducible refine CallG.pure (k_r22_Good s hs) ?_)
    | (with_reducible refine CallQ.pure (k_r22_Good s hs) ?_)
    | (refine CallG.at (k_l41_awake h0) ?_)
    | (with_reducible refine condD (fun _ => ?_) (fun _ => ?_)) <;> try (exfalso; omega)
    | (with_reducible refine condB (fun _ => ?_) (fun _ => ?_))
    | (with_reducible refine guardD (fun _ => ?_) (fun _ => ?_)) <;> try (exfalso; omega)
    | (with_reducible refine guardB (fun _ => ?_) (fun _ => ?_))
    | (with_reducible refine app_row (by assumption) src_lst (by simp only [List.length_map, List.length_append, List.length_cons, List.length_nil]; omega) (by simp only [List.length_map, List.length_append, List.length_cons, List.length_nil]; omega) (fun _ _ => ?_))
    | (simp -dsimp (disch := first | omega | assumption) only [↓PB, ↓reduceIte, QB, QC, QD, QE, Nat.reduceAdd, Nat.reduceMul, Nat.reduceEqDiff, Nat.reduceLT, Nat.reduceLeDiff, reduceCtorEq, QF, QG, QH, QI, QJ, *]))
  · rename_i hg
    have hlen : (histOf s).length ≤ 1000000 := by
      rw [histOf, List.length_map, (sortIns_perm _).length_eq]; exact (stateGood_tx hg).2.2.2.1
    have kH := k_historyAll' h0 s hg
    have kO := k_historyOf h0 s hg u
    have kB := k_historyBetween (σ := σ) (histOf s) hlen a b
    obtain ⟨v, hv, kU⟩ := k_historyUsers (histOf s) hlen
    change PureAt prog _ _ σ (encL 8 encRow ((histOf s).filter (pM u))) at kO
    change PureAt prog _ _ σ (encL 8 encRow ((histOf s).filter (pB a b))) at kB
    generalize histOf s = L at *
    obtain ⟨M, hM⟩ : ∃ M, L.filter (pM u) = M := ⟨_, rfl⟩
    obtain ⟨B, hB⟩ : ∃ B, L.filter (pB a b) = B := ⟨_, rfl⟩
    rw [hM] at kO
    rw [hB] at kB
    repeat' (first
      | (refine CallG.at kH ?_)
      | (refine CallG.at kO ?_)
      | (refine CallG.at kB ?_)
      | (with_reducible refine condD (fun _ => ?_) (fun _ => ?_)) <;> try (exfalso; omega)
      | (with_reducible refine condB (fun _ => ?_) (fun _ => ?_))
      | (with_reducible refine guardD (fun _ => ?_) (fun _ => ?_)) <;> try (exfalso; omega)
      | (with_reducible refine guardB (fun _ => ?_) (fun _ => ?_))
      | (with_reducible refine app_row (by assumption) src_lst (by simp only [List.length_map, List.length_append, List.length_cons, List.length_nil]; omega) (by simp only [List.length_map, List.length_append, List.length_cons, List.length_nil]; omega) (fun _ _ => ?_))
      | (simp -dsimp (disch := first | omega | assumption) only [↓PB, ↓reduceIte, QB, QC, QD, QE, Nat.reduceAdd, Nat.reduceMul, Nat.reduceEqDiff, Nat.reduceLT, Nat.reduceLeDiff, reduceCtorEq, QF, QG, QH, QI, QJ, *]))
    refine loop_p L.length (fun i e => e 16 = .int i ∧ e 12 = .int (cF (pM u) L i : Nat) ∧ e 13 = .int (cF (pB a b) L i : Nat) ∧ e 14 = .int (cF (pY u) L i : Nat) ∧ e 15 = .int (cF (pN u) L i : Nat)) 0 (by omega) ⟨by simp -dsimp (disch := first | omega | assumption) only [↓PB, ↓reduceIte, QB, QC, QD, QE, Nat.reduceAdd, Nat.reduceMul, Nat.reduceEqDiff, Nat.reduceLT, Nat.reduceLeDiff, reduceCtorEq, QF, QG, QH, QI, QJ, *] <;> rfl, by simp -dsimp (disch := first | omega | assumption) only [↓PB, ↓reduceIte, QB, QC, QD, QE, Nat.reduceAdd, Nat.reduceMul, Nat.reduceEqDiff, Nat.reduceLT, Nat.reduceLeDiff, reduceCtorEq, QF, QG, QH, QI, QJ, *] <;> rfl, by simp -dsimp (disch := first | omega | assumption) only [↓PB, ↓reduceIte, QB, QC, QD, QE, Nat.reduceAdd, Nat.reduceMul, Nat.reduceEqDiff, Nat.reduceLT, Nat.reduceLeDiff, reduceCtorEq, QF, QG, QH, QI, QJ, *] <;> rfl, by simp -dsimp (disch := first | omega | assumption) only [↓PB, ↓reduceIte, QB, QC, QD, QE, Nat.reduceAdd, Nat.reduceMul, Nat.reduceEqDiff, Nat.reduceLT, Nat.reduceLeDiff, reduceCtorEq, QF, QG, QH, QI, QJ, *] <;> rfl, by simp -dsimp (disch := first | omega | assumption) only [↓PB, ↓reduceIte, QB, QC, QD, QE, Nat.reduceAdd, Nat.reduceMul, Nat.reduceEqDiff, Nat.reduceLT, Nat.reduceLeDiff, reduceCtorEq, QF, QG, QH, QI, QJ, *] <;> rfl⟩ ?_
    rintro i e n hi ha ⟨h16, h12, h13, h14, h15⟩
    have f1 := ha 1 (by decide)
    have f2 := ha 2 (by decide)
    have f3 := ha 3 (by decide)
    have f9 := ha 9 (by decide)
    have f10 := ha 10 (by decide)
    have f11 := ha 11 (by decide)
    have f4 := ha 4 (by decide)
    simp -dsimp (disch := first | omega | assumption) only [↓PB, ↓reduceIte, QB, QC, QD, QE, Nat.reduceAdd, Nat.reduceMul, Nat.reduceEqDiff, Nat.reduceLT, Nat.reduceLeDiff, reduceCtorEq, QF, QG, QH, QI, QJ, *] at f1 f2 f3 f4 f9 f10 f11
    clear ha
    have b1 := cF_le (p := pM u) (l := L) (i := i)
    have b2 := cF_le (p := pB a b) (l := L) (i := i)
    have b3 := cF_le (p := pY u) (l := L) (i := i)
    have b4 := cF_le (p := pN u) (l := L) (i := i)
    unfold cz4l0
    by_cases hlt : i < L.length
    · have c1 := cF_succ (p := pM u) hlt
      have c2 := cF_succ (p := pB a b) hlt
      have c3' := cF_succ (p := pY u) hlt
      have c4 := cF_succ (p := pN u) hlt
      have hbM : L[i].User = u → M[cF (pM u) L i]? = some L[i] ∧ cF (pM u) L i < M.length := fun hu => by
        obtain ⟨hc, hget⟩ := cF_get (p := pM u) hlt (by simp [pM, hu])
        exact ⟨by rw [← hM, List.getElem?_eq_getElem hc, hget], by rw [← hM]; exact hc⟩
      have hbB : pB a b L[i] = true → B[cF (pB a b) L i]? = some L[i] ∧ cF (pB a b) L i < B.length := fun hb => by
        obtain ⟨hc, hget⟩ := cF_get (p := pB a b) hlt hb
        exact ⟨by rw [← hB, List.getElem?_eq_getElem hc, hget], by rw [← hB]; exact hc⟩
      by_cases hu : L[i].User = u
      · obtain ⟨q1, q2⟩ := hbM hu
        rw [if_pos (by simp [pM, hu])] at c1
        by_cases hb : pB a b L[i] = true
        · obtain ⟨r1, r2⟩ := hbB hb
          rw [if_pos hb] at c2
          clear hbM hbB
          repeat' (first
            | (with_reducible refine condD (fun _ => ?_) (fun _ => ?_)) <;> try (exfalso; omega)
            | (with_reducible refine condB (fun _ => ?_) (fun _ => ?_))
            | (with_reducible refine guardD (fun _ => ?_) (fun _ => ?_)) <;> try (exfalso; omega)
            | (with_reducible refine guardB (fun _ => ?_) (fun _ => ?_))
            | (with_reducible refine app_row (by assumption) src_lst (by simp only [List.length_map, List.length_append, List.length_cons, List.length_nil]; omega) (by simp only [List.length_map, List.length_append, List.length_cons, List.length_nil]; omega) (fun _ _ => ?_))
            | (simp -dsimp (disch := first | omega | assumption) only [↓PB, ↓reduceIte, QB, QC, QD, QE, Nat.reduceAdd, Nat.reduceMul, Nat.reduceEqDiff, Nat.reduceLT, Nat.reduceLeDiff, reduceCtorEq, QF, QG, QH, QI, QJ, *]))
          all_goals first | (exfalso; simp [pB, *] at hb; done) | ((repeat' apply And.intro) <;> simp [c1, c2, c3', c4, pY, pN, *]; done)
        · rw [if_neg hb] at c2
          clear hbM hbB
          repeat' (first
            | (with_reducible refine condD (fun _ => ?_) (fun _ => ?_)) <;> try (exfalso; omega)
            | (with_reducible refine condB (fun _ => ?_) (fun _ => ?_))
            | (with_reducible refine guardD (fun _ => ?_) (fun _ => ?_)) <;> try (exfalso; omega)
            | (with_reducible refine guardB (fun _ => ?_) (fun _ => ?_))
            | (with_reducible refine app_row (by assumption) src_lst (by simp only [List.length_map, List.length_append, List.length_cons, List.length_nil]; omega) (by simp only [List.length_map, List.length_append, List.length_cons, List.length_nil]; omega) (fun _ _ => ?_))
            | (simp -dsimp (disch := first | omega | assumption) only [↓PB, ↓reduceIte, QB, QC, QD, QE, Nat.reduceAdd, Nat.reduceMul, Nat.reduceEqDiff, Nat.reduceLT, Nat.reduceLeDiff, reduceCtorEq, QF, QG, QH, QI, QJ, *]))
          all_goals first | (exfalso; simp [pB, *] at hb; done) | ((repeat' apply And.intro) <;> simp [c1, c2, c3', c4, pY, pN, *]; done)
      · rw [if_neg (by simp [pM, hu])] at c1
        by_cases hb : pB a b L[i] = true
        · obtain ⟨r1, r2⟩ := hbB hb
          rw [if_pos hb] at c2
          clear hbM hbB
          repeat' (first
            | (with_reducible refine condD (fun _ => ?_) (fun _ => ?_)) <;> try (exfalso; omega)
            | (with_reducible refine condB (fun _ => ?_) (fun _ => ?_))
            | (with_reducible refine guardD (fun _ => ?_) (fun _ => ?_)) <;> try (exfalso; omega)
            | (with_reducible refine guardB (fun _ => ?_) (fun _ => ?_))
            | (with_reducible refine app_row (by assumption) src_lst (by simp only [List.length_map, List.length_append, List.length_cons, List.length_nil]; omega) (by simp only [List.length_map, List.length_append, List.length_cons, List.length_nil]; omega) (fun _ _ => ?_))
            | (simp -dsimp (disch := first | omega | assumption) only [↓PB, ↓reduceIte, QB, QC, QD, QE, Nat.reduceAdd, Nat.reduceMul, Nat.reduceEqDiff, Nat.reduceLT, Nat.reduceLeDiff, reduceCtorEq, QF, QG, QH, QI, QJ, *]))
          all_goals first | (exfalso; simp [pB, *] at hb; done) | ((repeat' apply And.intro) <;> simp [c1, c2, c3', c4, pY, pN, *]; done)
        · rw [if_neg hb] at c2
          clear hbM hbB
          repeat' (first
            | (with_reducible refine condD (fun _ => ?_) (fun _ => ?_)) <;> try (exfalso; omega)
            | (with_reducible refine condB (fun _ => ?_) (fun _ => ?_))
            | (with_reducible refine guardD (fun _ => ?_) (fun _ => ?_)) <;> try (exfalso; omega)
            | (with_reducible refine guardB (fun _ => ?_) (fun _ => ?_))
            | (with_reducible refine app_row (by assumption) src_lst (by simp only [List.length_map, List.length_append, List.length_cons, List.length_nil]; omega) (by simp only [List.length_map, List.length_append, List.length_cons, List.length_nil]; omega) (fun _ _ => ?_))
            | (simp -dsimp (disch := first | omega | assumption) only [↓PB, ↓reduceIte, QB, QC, QD, QE, Nat.reduceAdd, Nat.reduceMul, Nat.reduceEqDiff, Nat.reduceLT, Nat.reduceLeDiff, reduceCtorEq, QF, QG, QH, QI, QJ, *]))
          all_goals first | (exfalso; simp [pB, *] at hb; done) | ((repeat' apply And.intro) <;> simp [c1, c2, c3', c4, pY, pN, *]; done)
    · have hiL : i = L.length := by omega
      have e1 : cF (pM u) L i = M.length := by rw [← hM, hiL]; simp [cF]
      have e2 : cF (pB a b) L i = B.length := by rw [← hB, hiL]; simp [cF]
      have e3 : 0 ≤ u → u < 8 → v.at (u.toNat * 2) = (cF (pY u) L i : Nat) := fun h h' => by
        rw [hv _ (by omega), hiL]
        simp only [cF, List.take_length, cntU]
        congr 2
        apply List.filter_congr
        intro x _
        rw [Bool.eq_iff_iff, isU, pY]
        have : ((u.toNat * 2 / 2 : Nat) : Int) = u := by omega
        simp [this]
        try (intro _; rw [Int.max_eq_left h])
      have e4 : 0 ≤ u → u < 8 → v.at (u.toNat * 2 + 1) = (cF (pN u) L i : Nat) := fun h h' => by
        rw [hv _ (by omega), hiL]
        simp only [cF, List.take_length, cntU]
        congr 2
        apply List.filter_congr
        intro x _
        rw [Bool.eq_iff_iff, isU, pN]
        have : (((u.toNat * 2 + 1) / 2 : Nat) : Int) = u := by omega
        have h2 : ¬ (u.toNat * 2 + 1) % 2 = 0 := by omega
        simp [this, h2]
      clear hiL b1 b2 b3 b4
      by_cases hu : 0 ≤ u ∧ u < 8
      · obtain ⟨hu0, hu8⟩ := hu
        have e3 := e3 hu0 hu8
        have e4 := e4 hu0 hu8
        rw [hv _ (by omega)] at e3 e4
        repeat' (first
          | (refine CallG.pure kU ?_)
          | (refine CallG.at (k_l41_awake h0) ?_)
          | (with_reducible refine condD (fun _ => ?_) (fun _ => ?_)) <;> try (exfalso; omega)
          | (with_reducible refine condB (fun _ => ?_) (fun _ => ?_))
          | (with_reducible refine guardD (fun _ => ?_) (fun _ => ?_)) <;> try (exfalso; omega)
          | (with_reducible refine guardB (fun _ => ?_) (fun _ => ?_))
          | (with_reducible refine app_row (by assumption) src_lst (by simp only [List.length_map, List.length_append, List.length_cons, List.length_nil]; omega) (by simp only [List.length_map, List.length_append, List.length_cons, List.length_nil]; omega) (fun _ _ => ?_))
          | (simp -dsimp (disch := first | omega | assumption) only [↓PB, ↓reduceIte, QB, QC, QD, QE, Nat.reduceAdd, Nat.reduceMul, Nat.reduceEqDiff, Nat.reduceLT, Nat.reduceLeDiff, reduceCtorEq, QF, QG, QH, QI, QJ, vwhole, vpd, bud, *]))
        all_goals exact RetG.same ⟨rfl, rfl⟩
      · clear e3 e4
        repeat' (first
          | (refine CallG.pure kU ?_)
          | (refine CallG.at (k_l41_awake h0) ?_)
          | (with_reducible refine condD (fun _ => ?_) (fun _ => ?_)) <;> try (exfalso; omega)
          | (with_reducible refine condB (fun _ => ?_) (fun _ => ?_))
          | (with_reducible refine guardD (fun _ => ?_) (fun _ => ?_)) <;> try (exfalso; omega)
          | (with_reducible refine guardB (fun _ => ?_) (fun _ => ?_))
          | (with_reducible refine app_row (by assumption) src_lst (by simp only [List.length_map, List.length_append, List.length_cons, List.length_nil]; omega) (by simp only [List.length_map, List.length_append, List.length_cons, List.length_nil]; omega) (fun _ _ => ?_))
          | (simp -dsimp (disch := first | omega | assumption) only [↓PB, ↓reduceIte, QB, QC, QD, QE, Nat.reduceAdd, Nat.reduceMul, Nat.reduceEqDiff, Nat.reduceLT, Nat.reduceLeDiff, reduceCtorEq, QF, QG, QH, QI, QJ, vwhole, vpd, bud, *]))
        all_goals exact RetG.same ⟨rfl, rfl⟩
  · exact RetG.same ⟨rfl, rfl⟩
end Go.Av

namespace Go.Av
open Go.Proofs.Tryz
set_option maxRecDepth 100000
set_option linter.unusedSimpArgs false
set_option linter.unusedVariables false

/- tally.Raise -/
def c187 : ICode :=
  .seq (.region 3 [⟨(some 3), .bbox 0 (.t 1), none⟩,
    ⟨(some 4), .nbox 1 (.agg [(.int 0), (.int 0), (.int 0)]), none⟩,
    ⟨(some 5), .mov (.c (.int 0)), none⟩]) <|
  .seq (.region 4 [⟨(some 7), .mov (.t 0), none⟩,
    ⟨(some 8), .load (some 3) 2 true (.b 3), none⟩,
    ⟨(some 9), .call (.c (.clo 179 [])) [(.t 7), (.t 8)], none⟩,
    ⟨(some 6), .mov (.t 9), none⟩]) <|
  .seq (.block 0 (.seq (.region 4 [⟨(some 11), .load (some 3) 2 true (.b 3), none⟩,
    ⟨(some 12), .call (.c (.clo 199 [])) [(.t 11)], none⟩,
    ⟨(some 13), .un .not (.t 12), none⟩,
    ⟨(some 10), .mov (.t 13), none⟩]) <|
  .cond (.t 10) (.seq (.region 3 [⟨(some 14), .build (.agg [(.int 0), (.int 0), (.int 0)]) [], none⟩,
    ⟨none, .store (some 4) 3 (.b 4) (.t 14), none⟩,
    ⟨(some 5), .mov (.c (.int 2)), none⟩]) <|
  .ret) (.seq (.region 3 [⟨(some 16), .mov (.t 6), none⟩,
    ⟨(some 17), .bin .geq (.t 16) (.c (.int 64)), none⟩,
    ⟨(some 15), .mov (.t 17), none⟩]) <|
  .cond (.t 15) (.seq (.region 3 [⟨(some 18), .build (.agg [(.int 0), (.int 0), (.int 0)]) [], none⟩,
    ⟨none, .store (some 4) 3 (.b 4) (.t 18), none⟩,
    ⟨(some 5), .mov (.c (.int 14)), none⟩]) <|
  .ret) (.skip)))) <|
  .seq (.region 6 [⟨(some 19), .load (some 3) 2 true (.b 3), none⟩,
    ⟨(some 20), .mov (.t 6), none⟩,
    ⟨(some 21), .bin .add (.t 20) (.c (.int 1)), none⟩,
    ⟨(some 22), .build (.agg [(.int 0), (.int 0), (.int 0)]) [(0, 2, (.t 19)), (2, 1, (.t 21))], none⟩,
    ⟨none, .store (some 4) 3 (.b 4) (.t 22), none⟩,
    ⟨(some 5), .mov (.c (.int 0)), none⟩]) <|
  .ret
def ir187 : IFn := ⟨23, [3, 4], 2, [.cell 4 3 true, .tmp 5], c187⟩
theorem ok187 : compFn prog [3, 4] [] f187 = some ir187 := by kernel_rfl
theorem wp187 {a0 a1 : AV} {r : AV} (H : ∀ σ, WpI prog c187 (retQ [.cell 4 3 true, .tmp 5] fun v s => v = r ∧ s = σ) (argE [a0, a1]) 0 σ) : Pure prog 187 [a0, a1] r := @pure_of_wp prog hm 187 f187 [3, 4] [] ir187 [a0, a1] r func187 ok187 (Nat.le_of_ble_eq_true rfl) H
theorem wa187 {a0 a1 : AV} {σ : Heap} {R : AV → Heap → Prop} (H : WpI prog c187 (retQ [.cell 4 3 true, .tmp 5] R) (argE [a0, a1]) 0 σ) : CallsA prog 187 [a0, a1] σ R := @callsA_of_wp prog [3, 4] hm 187 f187 [] ir187 [a0, a1] σ R func187 ok187 (Nat.le_of_ble_eq_true rfl) H
/- stack.may -/
def c94 : ICode :=
  .seq (.region 3 [⟨(some 2), .bbox 0 (.t 0), none⟩,
    ⟨(some 3), .bbox 1 (.t 1), none⟩,
    ⟨(some 4), .mov (.c (.int 0)), none⟩]) <|
  .seq (.seq (.region 4 [⟨(some 7), .faddr (some 2) 19 (.b 2), none⟩,
    ⟨(some 8), .load (some 2) 17 true (.t 7), none⟩,
    ⟨(some 9), .load (some 3) 2 true (.b 3), none⟩,
    ⟨(some 10), .call (.c (.clo 180 [])) [(.t 8), (.t 9)], none⟩]) <|
  .cond (.t 10) (.seq (.region 1 [⟨(some 4), .mov (.c (.int 13)), none⟩]) <|
  .ret) (.skip)) <|
  .seq (.region 10 [⟨(some 12), .faddr (some 2) 1 (.b 2), none⟩,
    ⟨(some 13), .load (some 2) 1 false (.t 12), none⟩,
    ⟨(some 14), .load (some 3) 2 true (.b 3), none⟩,
    ⟨(some 15), .call (.c (.clo 187 [])) [(.t 13), (.t 14)], none⟩,
    ⟨(some 11), .mov (.t 15), none⟩,
    ⟨(some 16), .ext 0 (.t 11), none⟩,
    ⟨(some 17), .ext 1 (.t 11), none⟩,
    ⟨(some 5), .nbox 7 (.agg [(.int 0), (.int 0), (.int 0)]), none⟩,
    ⟨none, .store (some 5) 3 (.b 5) (.t 16), none⟩,
    ⟨(some 6), .mov (.t 17), none⟩]) <|
  .seq (.region 2 [⟨(some 18), .mov (.t 6), none⟩,
    ⟨(some 4), .mov (.t 18), none⟩]) <|
  .ret
def ir94 : IFn := ⟨19, [2, 3, 5], 2, [.tmp 4], c94⟩
theorem ok94 : compFn prog [2, 3, 5] [] f94 = some ir94 := by kernel_rfl
theorem wp94 {a0 a1 : AV} {r : AV} (H : ∀ σ, WpI prog c94 (retQ [.tmp 4] fun v s => v = r ∧ s = σ) (argE [a0, a1]) 0 σ) : Pure prog 94 [a0, a1] r := @pure_of_wp prog hm 94 f94 [2, 3, 5] [] ir94 [a0, a1] r func94 ok94 (Nat.le_of_ble_eq_true rfl) H
theorem wa94 {a0 a1 : AV} {σ : Heap} {R : AV → Heap → Prop} (H : WpI prog c94 (retQ [.tmp 4] R) (argE [a0, a1]) 0 σ) : CallsA prog 94 [a0, a1] σ R := @callsA_of_wp prog [2, 3, 5] hm 94 f94 [] ir94 [a0, a1] σ R func94 ok94 (Nat.le_of_ble_eq_true rfl) H
/- stack.Last -/
def c26l0 : ICode :=
  .seq (.region 1 [⟨(some 14), .bin .lss (.t 13) (.t 12), none⟩]) <|
  .seq (.cond (.t 14) (.skip) (.exit 0)) <|
  .seq (.block 1 (.seq (.region 2 [⟨(some 15), .mov (.t 13), none⟩,
    ⟨(some 7), .mov (.t 15), none⟩]) <|
  .seq (.region 5 [⟨(some 16), .faddr (some 2) 0 (.b 2), none⟩,
    ⟨(some 17), .load (some 2) 1 false (.t 16), none⟩,
    ⟨(some 18), .mov (.t 7), none⟩,
    ⟨(some 19), .iaddrS 6 (.t 17) (.t 18), none⟩,
    ⟨(some 8), .mov (.t 19), none⟩]) <|
  .seq (.region 29 [⟨(some 20), .mov (.t 8), none⟩,
    ⟨(some 21), .nilc (.t 20), none⟩,
    ⟨(some 22), .faddr none 2 (.t 21), none⟩,
    ⟨(some 23), .load none 1 false (.t 22), none⟩,
    ⟨(some 24), .mov (.t 1), none⟩,
    ⟨(some 25), .bin .eql (.t 23) (.t 24), none⟩,
    ⟨(some 26), .mov (.t 25), none⟩,
    ⟨(some 27), .faddr (some 2) 1 (.b 2), (some (26, true))⟩,
    ⟨(some 28), .load (some 2) 1 false (.t 27), (some (26, true))⟩,
    ⟨(some 29), .mov (.t 8), (some (26, true))⟩,
    ⟨(some 30), .nilc (.t 29), (some (26, true))⟩,
    ⟨(some 31), .faddr none 0 (.t 30), (some (26, true))⟩,
    ⟨(some 32), .load none 2 true (.t 31), (some (26, true))⟩,
    ⟨(some 33), .call (.c (.clo 93 [])) [(.t 28), (.t 32)], (some (26, true))⟩,
    ⟨(some 34), .pick (.t 26) (.t 33) (.c (.bool false)), none⟩,
    ⟨(some 35), .mov (.t 34), none⟩,
    ⟨(some 36), .mov (.t 6), (some (35, true))⟩,
    ⟨(some 37), .isnil false false (.t 36), (some (35, true))⟩,
    ⟨(some 38), .mov (.t 37), (some (35, true))⟩,
    ⟨(some 39), .mov (.t 6), (some (38, false))⟩,
    ⟨(some 40), .nilc (.t 39), (some (38, false))⟩,
    ⟨(some 41), .load none 6 true (.t 40), (some (38, false))⟩,
    ⟨(some 42), .mov (.t 8), (some (38, false))⟩,
    ⟨(some 43), .nilc (.t 42), (some (38, false))⟩,
    ⟨(some 44), .load none 6 true (.t 43), (some (38, false))⟩,
    ⟨(some 45), .call (.c (.clo 77 [])) [(.t 41), (.t 44)], (some (38, false))⟩,
    ⟨(some 46), .bin .lss (.t 45) (.c (.int 0)), (some (38, false))⟩,
    ⟨(some 47), .pick (.t 38) (.c (.bool true)) (.t 46), (some (35, true))⟩,
    ⟨(some 48), .pick (.t 35) (.t 47) (.c (.bool false)), none⟩]) <|
  .cond (.t 48) (.region 2 [⟨(some 49), .mov (.t 8), none⟩,
    ⟨(some 6), .mov (.t 49), none⟩]) (.skip))) <|
  .region 2 [⟨(some 50), .bin .add (.t 13) (.c (.int 1)), none⟩,
    ⟨(some 13), .mov (.t 50), none⟩]
def c26 : ICode :=
  .seq (.region 3 [⟨(some 2), .bbox 0 (.t 0), none⟩,
    ⟨(some 4), .nbox 1 (.agg [(.int 0), (.int 0)]), none⟩,
    ⟨(some 5), .mov (.c (.int 0)), none⟩]) <|
  .seq (.region 1 [⟨(some 6), .mov (.c (.sc (.pointer none))), none⟩]) <|
  .seq (.seq (.region 4 [⟨(some 10), .faddr (some 2) 0 (.b 2), none⟩,
    ⟨(some 11), .load (some 2) 1 false (.t 10), none⟩,
    ⟨(some 12), .len (.t 11), none⟩,
    ⟨(some 13), .mov (.c (.int 0)), none⟩]) <|
  .block 0 (.loop c26l0)) <|
  .seq (.seq (.region 2 [⟨(some 51), .mov (.t 6), none⟩,
    ⟨(some 52), .isnil false false (.t 51), none⟩]) <|
  .cond (.t 52) (.seq (.region 3 [⟨(some 53), .build (.agg [(.int 0), (.int 0)]) [], none⟩,
    ⟨none, .store (some 4) 2 (.b 4) (.t 53), none⟩,
    ⟨(some 5), .mov (.c (.int 11)), none⟩]) <|
  .ret) (.skip)) <|
  .seq (.seq (.region 7 [⟨(some 54), .load (some 2) 44 true (.b 2), none⟩,
    ⟨(some 55), .mov (.t 6), none⟩,
    ⟨(some 56), .nilc (.t 55), none⟩,
    ⟨(some 57), .faddr none 0 (.t 56), none⟩,
    ⟨(some 58), .load none 2 true (.t 57), none⟩,
    ⟨(some 59), .call (.c (.clo 94 [])) [(.t 54), (.t 58)], none⟩,
    ⟨(some 9), .mov (.t 59), none⟩]) <|
  .seq (.region 2 [⟨(some 60), .mov (.t 9), none⟩,
    ⟨(some 61), .bin .neq (.t 60) (.c (.int 0)), none⟩]) <|
  .cond (.t 61) (.seq (.region 4 [⟨(some 62), .build (.agg [(.int 0), (.int 0)]) [], none⟩,
    ⟨(some 63), .mov (.t 9), none⟩,
    ⟨none, .store (some 4) 2 (.b 4) (.t 62), none⟩,
    ⟨(some 5), .mov (.t 63), none⟩]) <|
  .ret) (.skip)) <|
  .seq (.region 6 [⟨(some 64), .mov (.t 6), none⟩,
    ⟨(some 65), .nilc (.t 64), none⟩,
    ⟨(some 66), .faddr none 0 (.t 65), none⟩,
    ⟨(some 67), .load none 2 true (.t 66), none⟩,
    ⟨none, .store (some 4) 2 (.b 4) (.t 67), none⟩,
    ⟨(some 5), .mov (.c (.int 0)), none⟩]) <|
  .ret
def ir26 : IFn := ⟨68, [2, 4], 2, [.cell 4 2 true, .tmp 5], c26⟩
theorem ok26 : compFn prog [2, 4] [] f26 = some ir26 := by kernel_rfl
theorem wp26 {a0 a1 : AV} {r : AV} (H : ∀ σ, WpI prog c26 (retQ [.cell 4 2 true, .tmp 5] fun v s => v = r ∧ s = σ) (argE [a0, a1]) 0 σ) : Pure prog 26 [a0, a1] r := @pure_of_wp prog hm 26 f26 [2, 4] [] ir26 [a0, a1] r func26 ok26 (Nat.le_of_ble_eq_true rfl) H
theorem wa26 {a0 a1 : AV} {σ : Heap} {R : AV → Heap → Prop} (H : WpI prog c26 (retQ [.cell 4 2 true, .tmp 5] R) (argE [a0, a1]) 0 σ) : CallsA prog 26 [a0, a1] σ R := @callsA_of_wp prog [2, 4] hm 26 f26 [] ir26 [a0, a1] σ R func26 ok26 (Nat.le_of_ble_eq_true rfl) H


def raiseE (s : State) (d : Dot) : Int := if dotRight d = true then (if 64 ≤ getU s.Undos d then 14 else 0) else 2
def mayE (s : State) (d : Dot) : Int := if dotsHas s.Sealed d = true then 13 else raiseE s d

theorem bu0 {a b c : AV} : buildA (.agg [a, b, c]) [] = some (.agg [a, b, c]) := rfl
theorem bu02 {a b : AV} : buildA (.agg [a, b]) [] = some (.agg [a, b]) := rfl
theorem bu0d {d : Dot} : buildA (encDot d) [] = some (encDot d) := rfl
theorem buU {d : Dot} {n : Int} : buildA (.agg [.int 0, .int 0, .int 0]) [(0, 2, encDot d), (2, 1, .int n)] = some (encUndo ⟨d, n⟩) := rfl
theorem sw3 {a b c d e f : AV} : AV.setPart 0 (AV.agg [a, b, c]).cells (.agg [d, e, f]) = some (.agg [a, b, c]) := rfl
theorem sw30 {a b c d e f : AV} : AV.setPart 0 [a, b, c] (.agg [d, e, f]) = some (.agg [a, b, c]) := rfl
theorem pw3 {u : Undo} : AV.part 0 3 true (encUndo u) = some (encUndo u) := rfl
theorem pw3' {a b c : Int} : AV.part 0 3 true (.agg [.int a, .int b, .int c]) = some (.agg [.int a, .int b, .int c]) := rfl

theorem k_tallyRaise (s : State) (d : Dot) (h1 : s.Undos.length ≤ 1000000) (h2 : s.Undos.Pairwise fun a b => dlt a.D b.D) : ∃ u : Undo, Pure prog 187 [encL 3 encUndo s.Undos, encDot d] (.tup [encUndo u, .int (raiseE s d)]) := by
  refine ⟨if dotRight d = true then (if 64 ≤ getU s.Undos d then ⟨⟨0, 0⟩, 0⟩ else ⟨d, IntKind.i64.wrap (getU s.Undos d + 1)⟩) else ⟨⟨0, 0⟩, 0⟩, ?_⟩
  unfold raiseE
  refine wp187 fun σ => ?_
  unfold c187
  simp -dsimp (disch := first | omega | assumption) only [↓PB, ↓reduceIte, QB, QC, QD, QE, Nat.reduceAdd, Nat.reduceMul, Nat.reduceEqDiff, Nat.reduceLT, Nat.reduceLeDiff, reduceCtorEq, QF, QG, QH, QI, QJ]
  repeat' (first
    | (with_reducible refine CallG.pure (k_tallyGet _ _ h1 h2) ?_)
    | (with_reducible refine CallQ.pure (k_tallyGet _ _ h1 h2) ?_)
    | (with_reducible refine CallG.pure (k_dotRight _) ?_)
    | (with_reducible refine CallQ.pure (k_dotRight _) ?_)
    | (with_reducible refine condD (fun _ => ?_) (fun _ => ?_)) <;> try (exfalso; omega)
    | (with_reducible refine condB (fun _ => ?_) (fun _ => ?_))
    | (with_reducible refine guardD (fun _ => ?_) (fun _ => ?_)) <;> try (exfalso; omega)
    | (with_reducible refine guardB (fun _ => ?_) (fun _ => ?_))
    | (with_reducible refine app_row (by assumption) src_lst (by simp only [List.length_map, List.length_append, List.length_cons, List.length_nil]; omega) (by simp only [List.length_map, List.length_append, List.length_cons, List.length_nil]; omega) (fun _ _ => ?_))
    | (simp -dsimp (disch := first | omega | assumption) only [↓PB, ↓reduceIte, QB, QC, QD, QE, Nat.reduceAdd, Nat.reduceMul, Nat.reduceEqDiff, Nat.reduceLT, Nat.reduceLeDiff, reduceCtorEq, QF, QG, QH, QI, QJ, bu0, buU, sw3, sw30, pw3, pw3', *]))
  all_goals exact RetG.same ⟨by simp [oneOrTup, *] <;> rfl, rfl⟩

theorem k_stackMay (s : State) (d : Dot) (h1 : s.Undos.length ≤ 1000000) (h2 : s.Undos.Pairwise fun a b => dlt a.D b.D) (h3 : s.Sealed.More.length ≤ 1000000) (h4 : s.Sealed.More.Pairwise dlt) :
    Pure prog 94 [encState s, encDot d] (.int (mayE s d)) := by
  obtain ⟨u, hr⟩ := k_tallyRaise s d h1 h2
  unfold mayE
  refine wp94 fun σ => ?_
  unfold c94
  simp -dsimp (disch := first | omega | assumption) only [↓PB, ↓reduceIte, QB, QC, QD, QE, Nat.reduceAdd, Nat.reduceMul, Nat.reduceEqDiff, Nat.reduceLT, Nat.reduceLeDiff, reduceCtorEq, QF, QG, QH, QI, QJ]
  repeat' (first
    | (with_reducible refine CallG.pure (k_dotsHas _ _ h3 h4) ?_)
    | (with_reducible refine CallQ.pure (k_dotsHas _ _ h3 h4) ?_)
    | (with_reducible refine CallG.pure (hr) ?_)
    | (with_reducible refine CallQ.pure (hr) ?_)
    | (with_reducible refine condD (fun _ => ?_) (fun _ => ?_)) <;> try (exfalso; omega)
    | (with_reducible refine condB (fun _ => ?_) (fun _ => ?_))
    | (with_reducible refine guardD (fun _ => ?_) (fun _ => ?_)) <;> try (exfalso; omega)
    | (with_reducible refine guardB (fun _ => ?_) (fun _ => ?_))
    | (with_reducible refine app_row (by assumption) src_lst (by simp only [List.length_map, List.length_append, List.length_cons, List.length_nil]; omega) (by simp only [List.length_map, List.length_append, List.length_cons, List.length_nil]; omega) (fun _ _ => ?_))
    | (simp -dsimp (disch := first | omega | assumption) only [↓PB, ↓reduceIte, QB, QC, QD, QE, Nat.reduceAdd, Nat.reduceMul, Nat.reduceEqDiff, Nat.reduceLT, Nat.reduceLeDiff, reduceCtorEq, QF, QG, QH, QI, QJ, bu0, buU, sw3, pw3, pw3', *]))
  all_goals exact RetG.same ⟨by simp [oneOrTup, *], rfl⟩

def okCount (s : State) (u : Int) (t : Txn) : Bool := decide (t.User = u) && decide ((getU s.Undos t.D).tmod 2 = 0)
def lastM (s : State) (u : Int) (l : List Txn) : Option Txn := l.foldl (fun acc t => if okCount s u t && (match acc with | none => true | some x => decide (cmpTxn x t < 0)) then some t else acc) none
def optA : Option Txn → AV
  | none => .sc (.pointer none)
  | some t => (encTxn t).ipt 0
theorem lastM_take (s : State) (u : Int) (l : List Txn) (i : Nat) (h : i < l.length) :
    lastM s u (l.take (i + 1)) = if okCount s u l[i] && (match lastM s u (l.take i) with | none => true | some x => decide (cmpTxn x l[i] < 0)) then some l[i] else lastM s u (l.take i) := by
  unfold lastM; rw [List.take_succ_eq_append_getElem h, List.foldl_append]; rfl
def lastR (s : State) (u : Int) : Dot × Int := match lastM s u s.Txns with
  | none => (⟨0, 0⟩, 11)
  | some t => if mayE s t.D = 0 then (t.D, 0) else (⟨0, 0⟩, mayE s t.D)

theorem k_stackLast (s : State) (u : Int) (h0 : s.Txns.length ≤ 1000000) (h1 : s.Undos.length ≤ 1000000) (h2 : s.Undos.Pairwise fun a b => dlt a.D b.D) (h3 : s.Sealed.More.length ≤ 1000000) (h4 : s.Sealed.More.Pairwise dlt) :
    Pure prog 26 [encState s, .int u] (.tup [encDot (lastR s u).1, .int (lastR s u).2]) := by
  refine wp26 fun σ => ?_
  unfold c26
  simp -dsimp (disch := first | omega | assumption) only [↓PB, ↓reduceIte, QB, QC, QD, QE, Nat.reduceAdd, Nat.reduceMul, Nat.reduceEqDiff, Nat.reduceLT, Nat.reduceLeDiff, reduceCtorEq, QF, QG, QH, QI, QJ]
  try simp -dsimp (disch := first | omega | assumption) only [↓PB, ↓reduceIte, QB, QC, QD, QE, Nat.reduceAdd, Nat.reduceMul, Nat.reduceEqDiff, Nat.reduceLT, Nat.reduceLeDiff, reduceCtorEq, QF, QG, QH, QI, QJ]
  refine loop_p s.Txns.length (fun i e => e 13 = .int i ∧ e 6 = optA (lastM s u (s.Txns.take i))) 0 (by omega) ⟨by simp -dsimp (disch := first | omega | assumption) only [↓PB, ↓reduceIte, QB, QC, QD, QE, Nat.reduceAdd, Nat.reduceMul, Nat.reduceEqDiff, Nat.reduceLT, Nat.reduceLeDiff, reduceCtorEq, QF, QG, QH, QI, QJ, *] <;> rfl, by simp -dsimp (disch := first | omega | assumption) only [↓PB, ↓reduceIte, QB, QC, QD, QE, Nat.reduceAdd, Nat.reduceMul, Nat.reduceEqDiff, Nat.reduceLT, Nat.reduceLeDiff, reduceCtorEq, QF, QG, QH, QI, QJ, *] <;> rfl⟩ ?_
  rintro i e n hi ha ⟨h13, h6⟩
  have g1 := ha 1 (by decide)
  have g2 := ha 2 (by decide)
  have g4 := ha 4 (by decide)
  have g5 := ha 5 (by decide)
  have g12 := ha 12 (by decide)
  simp -dsimp (disch := first | omega | assumption) only [↓PB, ↓reduceIte, QB, QC, QD, QE, Nat.reduceAdd, Nat.reduceMul, Nat.reduceEqDiff, Nat.reduceLT, Nat.reduceLeDiff, reduceCtorEq, QF, QG, QH, QI, QJ, *] at g1 g2 g4 g5 g12
  clear ha
  unfold c26l0
  by_cases hlt : i < s.Txns.length
  · have hk := lastM_take s u s.Txns i hlt
    cases ho : lastM s u (s.Txns.take i) with
    | none =>
      rw [ho] at hk h6
      simp only [optA] at h6
      repeat' (first
        | (with_reducible refine CallG.pure (k_tallySeen _ _ h1 h2) ?_)
        | (with_reducible refine CallQ.pure (k_tallySeen _ _ h1 h2) ?_)
        | (with_reducible refine CallG.pure (k_txnCompare _ _) ?_)
        | (with_reducible refine CallQ.pure (k_txnCompare _ _) ?_)
        | (with_reducible refine condD (fun _ => ?_) (fun _ => ?_)) <;> try (exfalso; omega)
        | (with_reducible refine condB (fun _ => ?_) (fun _ => ?_))
        | (with_reducible refine guardD (fun _ => ?_) (fun _ => ?_)) <;> try (exfalso; omega)
        | (with_reducible refine guardB (fun _ => ?_) (fun _ => ?_))
        | (with_reducible refine app_row (by assumption) src_lst (by simp only [List.length_map, List.length_append, List.length_cons, List.length_nil]; omega) (by simp only [List.length_map, List.length_append, List.length_cons, List.length_nil]; omega) (fun _ _ => ?_))
        | (simp -dsimp (disch := first | omega | assumption) only [↓PB, ↓reduceIte, QB, QC, QD, QE, Nat.reduceAdd, Nat.reduceMul, Nat.reduceEqDiff, Nat.reduceLT, Nat.reduceLeDiff, reduceCtorEq, QF, QG, QH, QI, QJ, *]))
      all_goals exact ⟨by simp, by simp [okCount, optA, *]⟩
    | some x =>
      rw [ho] at hk h6
      simp only [optA] at h6
      repeat' (first
        | (with_reducible refine CallG.pure (k_tallySeen _ _ h1 h2) ?_)
        | (with_reducible refine CallQ.pure (k_tallySeen _ _ h1 h2) ?_)
        | (with_reducible refine CallG.pure (k_txnCompare _ _) ?_)
        | (with_reducible refine CallQ.pure (k_txnCompare _ _) ?_)
        | (with_reducible refine condD (fun _ => ?_) (fun _ => ?_)) <;> try (exfalso; omega)
        | (with_reducible refine condB (fun _ => ?_) (fun _ => ?_))
        | (with_reducible refine guardD (fun _ => ?_) (fun _ => ?_)) <;> try (exfalso; omega)
        | (with_reducible refine guardB (fun _ => ?_) (fun _ => ?_))
        | (with_reducible refine app_row (by assumption) src_lst (by simp only [List.length_map, List.length_append, List.length_cons, List.length_nil]; omega) (by simp only [List.length_map, List.length_append, List.length_cons, List.length_nil]; omega) (fun _ _ => ?_))
        | (simp -dsimp (disch := first | omega | assumption) only [↓PB, ↓reduceIte, QB, QC, QD, QE, Nat.reduceAdd, Nat.reduceMul, Nat.reduceEqDiff, Nat.reduceLT, Nat.reduceLeDiff, reduceCtorEq, QF, QG, QH, QI, QJ, *]))
      all_goals exact ⟨by simp, by simp [okCount, optA, *]⟩
  · rw [List.take_of_length_le (by omega)] at h6
    unfold lastR
    cases ho : lastM s u s.Txns with
    | none =>
      rw [ho] at h6
      simp only [optA] at h6
      repeat' (first
        | (with_reducible refine condD (fun _ => ?_) (fun _ => ?_)) <;> try (exfalso; omega)
        | (with_reducible refine condB (fun _ => ?_) (fun _ => ?_))
        | (with_reducible refine guardD (fun _ => ?_) (fun _ => ?_)) <;> try (exfalso; omega)
        | (with_reducible refine guardB (fun _ => ?_) (fun _ => ?_))
        | (with_reducible refine app_row (by assumption) src_lst (by simp only [List.length_map, List.length_append, List.length_cons, List.length_nil]; omega) (by simp only [List.length_map, List.length_append, List.length_cons, List.length_nil]; omega) (fun _ _ => ?_))
        | (simp -dsimp (disch := first | omega | assumption) only [↓PB, ↓reduceIte, QB, QC, QD, QE, Nat.reduceAdd, Nat.reduceMul, Nat.reduceEqDiff, Nat.reduceLT, Nat.reduceLeDiff, reduceCtorEq, QF, QG, QH, QI, QJ, bu02, bu0d, *]))
      exact RetG.same ⟨rfl, rfl⟩
    | some x =>
      rw [ho] at h6
      simp only [optA] at h6
      repeat' (first
        | (with_reducible refine CallG.pure (k_stackMay s _ h1 h2 h3 h4) ?_)
        | (with_reducible refine CallQ.pure (k_stackMay s _ h1 h2 h3 h4) ?_)
        | (with_reducible refine condD (fun _ => ?_) (fun _ => ?_)) <;> try (exfalso; omega)
        | (with_reducible refine condB (fun _ => ?_) (fun _ => ?_))
        | (with_reducible refine guardD (fun _ => ?_) (fun _ => ?_)) <;> try (exfalso; omega)
        | (with_reducible refine guardB (fun _ => ?_) (fun _ => ?_))
        | (with_reducible refine app_row (by assumption) src_lst (by simp only [List.length_map, List.length_append, List.length_cons, List.length_nil]; omega) (by simp only [List.length_map, List.length_append, List.length_cons, List.length_nil]; omega) (fun _ _ => ?_))
        | (simp -dsimp (disch := first | omega | assumption) only [↓PB, ↓reduceIte, QB, QC, QD, QE, Nat.reduceAdd, Nat.reduceMul, Nat.reduceEqDiff, Nat.reduceLT, Nat.reduceLeDiff, reduceCtorEq, QF, QG, QH, QI, QJ, bu02, bu0d, *]))
      all_goals exact RetG.same ⟨by simp [oneOrTup, *], rfl⟩
end Go.Av

namespace Go.Av
open Go.Proofs.Tryz
set_option maxRecDepth 100000
set_option linter.unusedSimpArgs false
set_option linter.unusedVariables false

/- l41.HistoryLast -/
def cz5l0 : ICode :=
  .seq (.seq (.region 4 [⟨(some 17), .mov (.t 7), none⟩,
    ⟨(some 18), .mov (.t 5), none⟩,
    ⟨(some 19), .len (.t 18), none⟩,
    ⟨(some 20), .bin .lss (.t 17) (.t 19), none⟩]) <|
  .cond (.t 20) (.skip) (.exit 0)) <|
  .seq (.block 1 (.seq (.seq (.region 5 [⟨(some 23), .mov (.t 5), none⟩,
    ⟨(some 24), .mov (.t 7), none⟩,
    ⟨(some 25), .iaddrS 8 (.t 23) (.t 24), none⟩,
    ⟨(some 26), .faddr none 6 (.t 25), none⟩,
    ⟨(some 27), .load none 1 false (.t 26), none⟩]) <|
  .cond (.t 27) (.region 2 [⟨(some 28), .mov (.t 7), none⟩,
    ⟨(some 6), .mov (.t 28), none⟩]) (.skip)) <|
  .seq (.region 16 [⟨(some 29), .mov (.t 7), none⟩,
    ⟨(some 30), .bin .gtr (.t 29) (.c (.int 0)), none⟩,
    ⟨(some 31), .mov (.t 30), none⟩,
    ⟨(some 32), .mov (.t 5), (some (31, true))⟩,
    ⟨(some 33), .mov (.t 7), (some (31, true))⟩,
    ⟨(some 34), .iaddrS 8 (.t 32) (.t 33), (some (31, true))⟩,
    ⟨(some 35), .faddr none 3 (.t 34), (some (31, true))⟩,
    ⟨(some 36), .load none 1 false (.t 35), (some (31, true))⟩,
    ⟨(some 37), .mov (.t 5), (some (31, true))⟩,
    ⟨(some 38), .mov (.t 7), (some (31, true))⟩,
    ⟨(some 39), .bin .sub (.t 38) (.c (.int 1)), (some (31, true))⟩,
    ⟨(some 40), .iaddrS 8 (.t 37) (.t 39), (some (31, true))⟩,
    ⟨(some 41), .faddr none 3 (.t 40), (some (31, true))⟩,
    ⟨(some 42), .load none 1 false (.t 41), (some (31, true))⟩,
    ⟨(some 43), .bin .lss (.t 36) (.t 42), (some (31, true))⟩,
    ⟨(some 44), .pick (.t 31) (.t 43) (.c (.bool false)), none⟩]) <|
  .cond (.t 44) (.seq (.region 1 [⟨(some 4), .mov (.c (.bool false)), none⟩]) <|
  .ret) (.skip))) <|
  .region 3 [⟨(some 21), .mov (.t 7), none⟩,
    ⟨(some 22), .bin .add (.t 21) (.c (.int 1)), none⟩,
    ⟨(some 7), .mov (.t 22), none⟩]
def cz5 : ICode :=
  .seq (.region 2 [⟨(some 2), .bbox 0 (.t 0), none⟩,
    ⟨(some 4), .mov (.c (.bool false)), none⟩]) <|
  .seq (.seq (.region 3 [⟨(some 10), .load (some 2) 44 true (.b 2), none⟩,
    ⟨(some 11), .call (.c (.clo 14 [])) [(.t 10)], none⟩,
    ⟨(some 12), .un .not (.t 11), none⟩]) <|
  .cond (.t 12) (.seq (.region 2 [⟨(some 13), .call (.c (.clo 15 [])) [], none⟩,
    ⟨(some 4), .mov (.t 13), none⟩]) <|
  .ret) (.skip)) <|
  .seq (.region 4 [⟨(some 14), .load (some 2) 44 true (.b 2), none⟩,
    ⟨(some 15), .mov (.t 1), none⟩,
    ⟨(some 16), .call (.c (.clo 23 [])) [(.t 14), (.t 15)], none⟩,
    ⟨(some 5), .mov (.t 16), none⟩]) <|
  .seq (.region 1 [⟨(some 6), .mov (.c (.int (-1))), none⟩]) <|
  .seq (.seq (.region 1 [⟨(some 7), .mov (.c (.int 0)), none⟩]) <|
  .block 0 (.loop cz5l0)) <|
  .seq (.region 9 [⟨(some 46), .load (some 2) 44 true (.b 2), none⟩,
    ⟨(some 47), .mov (.t 1), none⟩,
    ⟨(some 48), .call (.c (.clo 26 [])) [(.t 46), (.t 47)], none⟩,
    ⟨(some 45), .mov (.t 48), none⟩,
    ⟨(some 49), .ext 0 (.t 45), none⟩,
    ⟨(some 50), .ext 1 (.t 45), none⟩,
    ⟨(some 8), .nbox 6 (.agg [(.int 0), (.int 0)]), none⟩,
    ⟨none, .store (some 8) 2 (.b 8) (.t 49), none⟩,
    ⟨(some 9), .mov (.t 50), none⟩]) <|
  .seq (.seq (.region 2 [⟨(some 51), .mov (.t 6), none⟩,
    ⟨(some 52), .bin .lss (.t 51) (.c (.int 0)), none⟩]) <|
  .cond (.t 52) (.seq (.region 6 [⟨(some 53), .mov (.t 9), none⟩,
    ⟨(some 54), .bin .eql (.t 53) (.c (.int 11)), none⟩,
    ⟨(some 55), .mov (.t 54), none⟩,
    ⟨(some 56), .call (.c (.clo 15 [])) [], (some (55, true))⟩,
    ⟨(some 57), .pick (.t 55) (.t 56) (.c (.bool false)), none⟩,
    ⟨(some 4), .mov (.t 57), none⟩]) <|
  .ret) (.skip)) <|
  .seq (.seq (.region 5 [⟨(some 58), .mov (.t 5), none⟩,
    ⟨(some 59), .mov (.t 6), none⟩,
    ⟨(some 60), .iaddrS 8 (.t 58) (.t 59), none⟩,
    ⟨(some 61), .faddr none 7 (.t 60), none⟩,
    ⟨(some 62), .load none 1 false (.t 61), none⟩]) <|
  .cond (.t 62) (.seq (.region 6 [⟨(some 63), .mov (.t 9), none⟩,
    ⟨(some 64), .bin .eql (.t 63) (.c (.int 13)), none⟩,
    ⟨(some 65), .mov (.t 64), none⟩,
    ⟨(some 66), .call (.c (.clo 15 [])) [], (some (65, true))⟩,
    ⟨(some 67), .pick (.t 65) (.t 66) (.c (.bool false)), none⟩,
    ⟨(some 4), .mov (.t 67), none⟩]) <|
  .ret) (.skip)) <|
  .seq (.seq (.region 6 [⟨(some 68), .mov (.t 5), none⟩,
    ⟨(some 69), .mov (.t 6), none⟩,
    ⟨(some 70), .iaddrS 8 (.t 68) (.t 69), none⟩,
    ⟨(some 71), .faddr none 5 (.t 70), none⟩,
    ⟨(some 72), .load none 1 false (.t 71), none⟩,
    ⟨(some 73), .bin .geq (.t 72) (.c (.int 64)), none⟩]) <|
  .cond (.t 73) (.seq (.region 6 [⟨(some 74), .mov (.t 9), none⟩,
    ⟨(some 75), .bin .eql (.t 74) (.c (.int 14)), none⟩,
    ⟨(some 76), .mov (.t 75), none⟩,
    ⟨(some 77), .call (.c (.clo 15 [])) [], (some (76, true))⟩,
    ⟨(some 78), .pick (.t 76) (.t 77) (.c (.bool false)), none⟩,
    ⟨(some 4), .mov (.t 78), none⟩]) <|
  .ret) (.skip)) <|
  .seq (.region 15 [⟨(some 79), .mov (.t 9), none⟩,
    ⟨(some 80), .bin .eql (.t 79) (.c (.int 0)), none⟩,
    ⟨(some 81), .mov (.t 80), none⟩,
    ⟨(some 82), .load (some 8) 2 true (.b 8), (some (81, true))⟩,
    ⟨(some 83), .mov (.t 5), (some (81, true))⟩,
    ⟨(some 84), .mov (.t 6), (some (81, true))⟩,
    ⟨(some 85), .iaddrS 8 (.t 83) (.t 84), (some (81, true))⟩,
    ⟨(some 86), .faddr none 0 (.t 85), (some (81, true))⟩,
    ⟨(some 87), .load none 2 true (.t 86), (some (81, true))⟩,
    ⟨(some 88), .eql false [.int .i64, .int .i64] (.t 82) (.t 87), (some (81, true))⟩,
    ⟨(some 89), .pick (.t 81) (.t 88) (.c (.bool false)), none⟩,
    ⟨(some 90), .mov (.t 89), none⟩,
    ⟨(some 91), .call (.c (.clo 15 [])) [], (some (90, true))⟩,
    ⟨(some 92), .pick (.t 90) (.t 91) (.c (.bool false)), none⟩,
    ⟨(some 4), .mov (.t 92), none⟩]) <|
  .ret
def ir5 : IFn := ⟨93, [2, 8], 2, [.tmp 4], cz5⟩
theorem ok5 : compFn prog [2, 8] [] f5 = some ir5 := by kernel_rfl
theorem wp5 {a0 a1 : AV} {r : AV} (H : ∀ σ, WpI prog cz5 (retQ [.tmp 4] fun v s => v = r ∧ s = σ) (argE [a0, a1]) 0 σ) : Pure prog 5 [a0, a1] r := @pure_of_wp prog hm 5 f5 [2, 8] [] ir5 [a0, a1] r func5 ok5 (Nat.le_of_ble_eq_true rfl) H
theorem wa5 {a0 a1 : AV} {σ : Heap} {R : AV → Heap → Prop} (H : WpI prog cz5 (retQ [.tmp 4] R) (argE [a0, a1]) 0 σ) : CallsA prog 5 [a0, a1] σ R := @callsA_of_wp prog [2, 8] hm 5 f5 [] ir5 [a0, a1] σ R func5 ok5 (Nat.le_of_ble_eq_true rfl) H


/-- The place of the last row that counts, of the first so many. -/
def lstI (l : List Row) : Nat → Int
  | 0 => -1
  | i + 1 => if (l[i]?.map Row.Counts).getD false = true then (i : Nat) else lstI l i
theorem lstI_succ {l : List Row} {i : Nat} (h : i < l.length) : lstI l (i + 1) = if l[i].Counts = true then (i : Int) else lstI l i := by
  simp [lstI, h]
theorem lstI_bd (l : List Row) (i : Nat) : -1 ≤ lstI l i ∧ lstI l i < i := by
  induction i with
  | zero => simp [lstI]
  | succ i ih => unfold lstI; split <;> omega
theorem lstI_spec (l : List Row) : ∀ i, i ≤ l.length → (∀ k (hk : k < l.length), k < i → lstI l i < (k : Int) → l[k].Counts = false) ∧ (∀ k (hk : k < l.length), lstI l i = (k : Int) → l[k].Counts = true) := by
  intro i
  induction i with
  | zero => intro _; exact ⟨fun k _ h => by omega, fun k _ h => by simp only [lstI] at h; omega⟩
  | succ i ih =>
    intro hi
    obtain ⟨h1, h2⟩ := ih (by omega)
    rw [lstI_succ (by omega)]
    split
    · rename_i hc
      refine ⟨fun k hk h h' => by omega, fun k hk h => ?_⟩
      obtain rfl : i = k := by omega
      exact hc
    · rename_i hc
      refine ⟨fun k hk h h' => ?_, h2⟩
      rcases Nat.lt_or_ge k i with hlt | hge
      · exact h1 k hk hlt h'
      · obtain rfl : k = i := by omega
        simpa using hc

theorem lastM_spec (s : State) (u : Int) : ∀ i, i ≤ s.Txns.length → match lastM s u (s.Txns.take i) with
    | none => ∀ t ∈ s.Txns.take i, okCount s u t = false
    | some m => m ∈ s.Txns ∧ okCount s u m = true ∧ ∀ t ∈ s.Txns.take i, okCount s u t = true → ¬ cmpTxn m t < 0 := by
  have hw := fun a b => cmpTxn_lt a b
  simp only [Go.Proofs.ltOf, decide_eq_true_iff] at hw
  intro i
  induction i with
  | zero => intro _; simp [lastM]
  | succ i ih =>
    intro hi
    have ih := ih (by omega)
    have hm : ∀ t, t ∈ s.Txns.take (i + 1) ↔ t ∈ s.Txns.take i ∨ t = s.Txns[i] := fun t => by
      rw [List.take_succ_eq_append_getElem (by omega), List.mem_append, List.mem_singleton]
    have hstep := lastM_take s u s.Txns i (by omega)
    cases ho : lastM s u (s.Txns.take i) with
    | none =>
      rw [ho] at ih hstep
      simp only [Bool.and_true] at ih hstep
      by_cases hc : okCount s u s.Txns[i] = true
      · rw [if_pos hc] at hstep
        rw [hstep]
        refine ⟨List.getElem_mem _, hc, fun t ht hok => ?_⟩
        rcases (hm t).1 ht with ht | rfl
        · rw [ih t ht] at hok; cases hok
        · rw [hw]; unfold dlt; omega
      · rw [if_neg hc] at hstep
        rw [hstep]
        intro t ht
        rcases (hm t).1 ht with ht | rfl
        · exact ih t ht
        · simpa using hc
    | some m =>
      rw [ho] at ih hstep
      obtain ⟨i1, i2, i3⟩ := ih
      simp only at hstep
      by_cases hc : (okCount s u s.Txns[i] && decide (cmpTxn m s.Txns[i] < 0)) = true
      · rw [if_pos hc] at hstep
        rw [hstep]
        simp only [Bool.and_eq_true, decide_eq_true_eq] at hc
        refine ⟨List.getElem_mem _, hc.1, fun t ht hok => ?_⟩
        rcases (hm t).1 ht with ht | rfl
        · have := i3 t ht hok
          have h2 := hc.2
          rw [hw] at this h2 ⊢; unfold dlt at *; omega
        · rw [hw]; unfold dlt; omega
      · rw [if_neg hc] at hstep
        rw [hstep]
        simp only [Bool.and_eq_true, decide_eq_true_eq, not_and] at hc
        refine ⟨i1, i2, fun t ht hok => ?_⟩
        rcases (hm t).1 ht with ht | rfl
        · exact i3 t ht hok
        · exact hc hok

def userT (s : State) (u : Int) : List Txn := (sortIns s.Txns).filter fun t => decide (t.User = u)
theorem userRows (s : State) (u : Int) : (histOf s).filter (pM u) = (userT s u).map (rowOf_ s) := by
  unfold histOf userT
  rw [List.filter_map]
  rfl

theorem last_eq {s : State} {u : Int} (hr : s.Txns.Pairwise fun a b => dlt a.D b.D) {L : List Row} (hL : (histOf s).filter (pM u) = L) :
    (lstI L L.length = -1 → lastM s u s.Txns = none) ∧ ∀ k (hk : k < L.length), lstI L L.length = (k : Int) → ∃ m, lastM s u s.Txns = some m ∧ m ∈ s.Txns ∧ L[k] = rowOf_ s m := by
  have hw := fun a b => cmpTxn_lt a b
  simp only [Go.Proofs.ltOf, decide_eq_true_iff] at hw
  rw [userRows] at hL
  subst hL
  obtain ⟨c1, c2⟩ := lstI_spec ((userT s u).map (rowOf_ s)) _ (Nat.le_refl _)
  have sp := lastM_spec s u s.Txns.length (Nat.le_refl _)
  rw [List.take_length] at sp
  have hcnt : ∀ k (hk : k < (userT s u).length), okCount s u (userT s u)[k] = (rowOf_ s (userT s u)[k]).Counts := fun k hk => by
    have := (List.mem_filter.1 (List.getElem_mem hk)).2
    simp only [decide_eq_true_eq] at this
    simp [okCount, this, rowOf_, rowN]
  have hmem : ∀ m, m ∈ s.Txns → okCount s u m = true → ∃ j, ∃ hj : j < (userT s u).length, (userT s u)[j] = m := fun m hm hok => by
    have : m ∈ userT s u := List.mem_filter.2 ⟨(sortIns_perm _).mem_iff.2 hm, by simp only [okCount, Bool.and_eq_true] at hok; exact hok.1⟩
    exact List.mem_iff_getElem.1 this
  have hsub : ∀ k (hk : k < (userT s u).length), (userT s u)[k] ∈ s.Txns := fun k hk => sortIns_mem (List.mem_filter.1 (List.getElem_mem hk)).1
  have hpw := ((sortIns_pw s.Txns).filter fun t => decide (t.User = u))
  change (userT s u).Pairwise _ at hpw
  rw [List.pairwise_iff_getElem] at hpw
  have hinj : ∀ a ∈ s.Txns, ∀ b ∈ s.Txns, a.D = b.D → a = b := by
    intro a ha b hb hd
    obtain ⟨i, hi, rfl⟩ := List.mem_iff_getElem.1 ha
    obtain ⟨j, hj, rfl⟩ := List.mem_iff_getElem.1 hb
    rw [List.pairwise_iff_getElem] at hr
    rcases Nat.lt_trichotomy i j with h | h | h
    · have := hr i j hi hj h; rw [hd] at this; exact absurd this dlt_irr
    · subst h; rfl
    · have := hr j i hj hi h; rw [hd] at this; exact absurd this dlt_irr
  constructor
  · intro h
    cases ho : lastM s u s.Txns with
    | none => rfl
    | some m =>
      rw [ho] at sp
      obtain ⟨j, hj, hjm⟩ := hmem m sp.1 sp.2.1
      have := c1 j (by simpa using hj) (by simpa using hj) (by omega)
      rw [List.getElem_map, ← hcnt j hj, hjm, sp.2.1] at this
      cases this
  · intro k hk h
    have hk' : k < (userT s u).length := by simpa using hk
    have hx := c2 k hk h
    rw [List.getElem_map, ← hcnt k hk'] at hx
    cases ho : lastM s u s.Txns with
    | none =>
      rw [ho] at sp
      rw [sp _ (hsub k hk')] at hx; cases hx
    | some m =>
      rw [ho] at sp
      obtain ⟨j, hj, hjm⟩ := hmem m sp.1 sp.2.1
      refine ⟨m, rfl, sp.1, ?_⟩
      rw [List.getElem_map]
      congr 1
      have hmx := sp.2.2 _ (hsub k hk') hx
      rcases Nat.lt_trichotomy j k with hjk | rfl | hjk
      · have := hpw j k hj hk' hjk
        rw [hjm] at this
        refine hinj _ (hsub k hk') _ sp.1 ?_
        rw [hw] at this hmx
        rw [Dot.ext_iff]; unfold dlt at *; omega
      · exact hjm
      · have := c1 j (by simpa using hj) (by simpa using hj) (by omega)
        rw [List.getElem_map, ← hcnt j hj, hjm, sp.2.1] at this
        cases this
theorem good_dot {s : State} (h : stateGood s = true) : ∀ t ∈ s.Txns, dotRight t.D = true := by
  simp only [stateGood, stateRight, Bool.and_eq_true, List.all_eq_true, decide_eq_true_eq] at h
  intro t ht
  have h1 := h.2.1.1.1.2 t ht
  unfold txnCheck at h1
  cases hd : dotRight t.D with
  | true => rfl
  | false => simp [hd] at h1

theorem hist_times {s : State} {u : Int} {L : List Row} (hL : (histOf s).filter (pM u) = L) : ∀ i (hi : i < L.length), 0 < i → ¬ L[i].Time < (L[i - 1]'(by omega)).Time := by
  have hw := fun a b => cmpTxn_lt a b
  simp only [Go.Proofs.ltOf, decide_eq_true_iff] at hw
  rw [userRows] at hL
  subst hL
  intro i hi h0
  have hpw := ((sortIns_pw s.Txns).filter fun t => decide (t.User = u))
  change (userT s u).Pairwise _ at hpw
  rw [List.pairwise_iff_getElem] at hpw
  have hi' : i < (userT s u).length := by simpa using hi
  have := hpw (i - 1) i (by omega) hi' (by omega)
  rw [hw] at this
  simp only [List.getElem_map, rowOf_, rowN]
  omega

theorem k_HistoryLast {σ : Heap} (h0 : Tab σ) (s : State) (hs : okState s) (u : Int) : PureAt prog 5 [encState s, .int u] σ (.bool true) := by
  refine wa5 ?_
  unfold cz5
  try simp -dsimp (disch := first | omega | assumption) only [↓PB, ↓reduceIte, QB, QC, QD, QE, Nat.reduceAdd, Nat.reduceMul, Nat.reduceEqDiff, Nat.reduceLT, Nat.reduceLeDiff, reduceCtorEq, QF, QG, QH, QI, QJ]
  repeat' (first
    | (with_reducible refine CallG.pure (k_r22_Good s hs) ?_)
    | (with_reducible refine CallQ.pure (k_r22_Good s hs) ?_)
    | (refine CallG.at (k_l41_awake h0) ?_)
    | (with_reducible refine condD (fun _ => ?_) (fun _ => ?_)) <;> try (exfalso; omega)
    | (with_reducible refine condB (fun _ => ?_) (fun _ => ?_))
    | (with_reducible refine guardD (fun _ => ?_) (fun _ => ?_)) <;> try (exfalso; omega)
    | (with_reducible refine guardB (fun _ => ?_) (fun _ => ?_))
    | (with_reducible refine app_row (by assumption) src_lst (by simp only [List.length_map, List.length_append, List.length_cons, List.length_nil]; omega) (by simp only [List.length_map, List.length_append, List.length_cons, List.length_nil]; omega) (fun _ _ => ?_))
    | (simp -dsimp (disch := first | omega | assumption) only [↓PB, ↓reduceIte, QB, QC, QD, QE, Nat.reduceAdd, Nat.reduceMul, Nat.reduceEqDiff, Nat.reduceLT, Nat.reduceLeDiff, reduceCtorEq, QF, QG, QH, QI, QJ, *]))
  · rename_i hg
    obtain ⟨g1, g2, g3, g4⟩ := stateGood_tx hg
    have kO := k_historyOf h0 s hg u
    change PureAt prog _ _ σ (encL 8 encRow ((histOf s).filter (pM u))) at kO
    have kL := k_stackLast s u g4.1 g4.2.2.1 g2 g4.2.2.2.2.1 g3
    obtain ⟨L, hL⟩ : ∃ L, (histOf s).filter (pM u) = L := ⟨_, rfl⟩
    have hlen : L.length ≤ 1000000 := by
      have h1 : (histOf s).length ≤ 1000000 := by rw [histOf, List.length_map, (sortIns_perm _).length_eq]; exact g4.1
      have h2 := List.length_filter_le (pM u) (histOf s)
      rw [hL] at h2; omega
    have hT := hist_times hL
    obtain ⟨hn, hk⟩ := last_eq g1 hL
    have hd := good_dot hg
    rw [hL] at kO
    clear hL
    repeat' (first
      | (refine CallG.at kO ?_)
      | (with_reducible refine condD (fun _ => ?_) (fun _ => ?_)) <;> try (exfalso; omega)
      | (with_reducible refine condB (fun _ => ?_) (fun _ => ?_))
      | (with_reducible refine guardD (fun _ => ?_) (fun _ => ?_)) <;> try (exfalso; omega)
      | (with_reducible refine guardB (fun _ => ?_) (fun _ => ?_))
      | (with_reducible refine app_row (by assumption) src_lst (by simp only [List.length_map, List.length_append, List.length_cons, List.length_nil]; omega) (by simp only [List.length_map, List.length_append, List.length_cons, List.length_nil]; omega) (fun _ _ => ?_))
      | (simp -dsimp (disch := first | omega | assumption) only [↓PB, ↓reduceIte, QB, QC, QD, QE, Nat.reduceAdd, Nat.reduceMul, Nat.reduceEqDiff, Nat.reduceLT, Nat.reduceLeDiff, reduceCtorEq, QF, QG, QH, QI, QJ, *]))
    refine loop_p L.length (fun i e => e 7 = .int i ∧ e 6 = .int (lstI L i)) 0 (by omega) ⟨by simp -dsimp (disch := first | omega | assumption) only [↓PB, ↓reduceIte, QB, QC, QD, QE, Nat.reduceAdd, Nat.reduceMul, Nat.reduceEqDiff, Nat.reduceLT, Nat.reduceLeDiff, reduceCtorEq, QF, QG, QH, QI, QJ, *] <;> rfl, by simp -dsimp (disch := first | omega | assumption) only [↓PB, ↓reduceIte, QB, QC, QD, QE, Nat.reduceAdd, Nat.reduceMul, Nat.reduceEqDiff, Nat.reduceLT, Nat.reduceLeDiff, reduceCtorEq, QF, QG, QH, QI, QJ, *] <;> rfl⟩ ?_
    rintro i e n hi ha ⟨h7, h6⟩
    have f1 := ha 1 (by decide)
    have f2 := ha 2 (by decide)
    have f5 := ha 5 (by decide)
    simp -dsimp (disch := first | omega | assumption) only [↓PB, ↓reduceIte, QB, QC, QD, QE, Nat.reduceAdd, Nat.reduceMul, Nat.reduceEqDiff, Nat.reduceLT, Nat.reduceLeDiff, reduceCtorEq, QF, QG, QH, QI, QJ, *] at f1 f2 f5
    clear ha
    have hb := lstI_bd L i
    unfold cz5l0
    by_cases hlt : i < L.length
    · have hs1 := lstI_succ hlt
      have hTi := hT i hlt
      clear hT hn hk
      by_cases hi0 : 0 < i
      · have hTi := hTi hi0
        repeat' (first
          | (with_reducible refine condD (fun _ => ?_) (fun _ => ?_)) <;> try (exfalso; omega)
          | (with_reducible refine condB (fun _ => ?_) (fun _ => ?_))
          | (with_reducible refine guardD (fun _ => ?_) (fun _ => ?_)) <;> try (exfalso; omega)
          | (with_reducible refine guardB (fun _ => ?_) (fun _ => ?_))
          | (with_reducible refine app_row (by assumption) src_lst (by simp only [List.length_map, List.length_append, List.length_cons, List.length_nil]; omega) (by simp only [List.length_map, List.length_append, List.length_cons, List.length_nil]; omega) (fun _ _ => ?_))
          | (simp -dsimp (disch := first | omega | assumption) only [↓PB, ↓reduceIte, QB, QC, QD, QE, Nat.reduceAdd, Nat.reduceMul, Nat.reduceEqDiff, Nat.reduceLT, Nat.reduceLeDiff, reduceCtorEq, QF, QG, QH, QI, QJ, *]))
        all_goals simp
      · repeat' (first
          | (with_reducible refine condD (fun _ => ?_) (fun _ => ?_)) <;> try (exfalso; omega)
          | (with_reducible refine condB (fun _ => ?_) (fun _ => ?_))
          | (with_reducible refine guardD (fun _ => ?_) (fun _ => ?_)) <;> try (exfalso; omega)
          | (with_reducible refine guardB (fun _ => ?_) (fun _ => ?_))
          | (with_reducible refine app_row (by assumption) src_lst (by simp only [List.length_map, List.length_append, List.length_cons, List.length_nil]; omega) (by simp only [List.length_map, List.length_append, List.length_cons, List.length_nil]; omega) (fun _ _ => ?_))
          | (simp -dsimp (disch := first | omega | assumption) only [↓PB, ↓reduceIte, QB, QC, QD, QE, Nat.reduceAdd, Nat.reduceMul, Nat.reduceEqDiff, Nat.reduceLT, Nat.reduceLeDiff, reduceCtorEq, QF, QG, QH, QI, QJ, *]))
        all_goals simp
    · have hiL : i = L.length := by omega
      rw [hiL] at h6 hb
      clear hT
      by_cases hm1 : lstI L L.length = -1
      · have hn := hn hm1
        have hR : lastR s u = (⟨0, 0⟩, 11) := by unfold lastR; rw [hn]
        rw [hm1] at h6 hb
        rw [hR] at kL
        simp only at kL
        clear hR hn hk
        repeat' (first
          | (with_reducible refine CallG.pure (kL) ?_)
          | (with_reducible refine CallQ.pure (kL) ?_)
          | (refine CallG.at (k_l41_awake h0) ?_)
          | (with_reducible refine condD (fun _ => ?_) (fun _ => ?_)) <;> try (exfalso; omega)
          | (with_reducible refine condB (fun _ => ?_) (fun _ => ?_))
          | (with_reducible refine guardD (fun _ => ?_) (fun _ => ?_)) <;> try (exfalso; omega)
          | (with_reducible refine guardB (fun _ => ?_) (fun _ => ?_))
          | (with_reducible refine app_row (by assumption) src_lst (by simp only [List.length_map, List.length_append, List.length_cons, List.length_nil]; omega) (by simp only [List.length_map, List.length_append, List.length_cons, List.length_nil]; omega) (fun _ _ => ?_))
          | (simp -dsimp (disch := first | omega | assumption) only [↓PB, ↓reduceIte, QB, QC, QD, QE, Nat.reduceAdd, Nat.reduceMul, Nat.reduceEqDiff, Nat.reduceLT, Nat.reduceLeDiff, reduceCtorEq, QF, QG, QH, QI, QJ, *]))
        all_goals exact RetG.same ⟨rfl, rfl⟩
      · obtain ⟨k, hkk⟩ : ∃ k : Nat, lstI L L.length = (k : Int) := ⟨(lstI L L.length).toNat, by omega⟩
        have hkl : k < L.length := by omega
        obtain ⟨m, hm, hmem, hrow⟩ := hk k hkl hkk
        have hdm := hd m hmem
        have hFix : L[k].Fixed = dotsHas s.Sealed m.D := by rw [hrow]; rfl
        have hTur : L[k].Turns = getU s.Undos m.D := by rw [hrow]; rfl
        have hDD : L[k].D = m.D := by rw [hrow]; rfl
        have hR : lastR s u = if L[k].Fixed = true then (⟨0, 0⟩, 13) else if 64 ≤ L[k].Turns then (⟨0, 0⟩, 14) else (L[k].D, 0) := by
          unfold lastR mayE raiseE
          rw [hm, hFix, hTur, hDD]
          simp only [hdm, if_true]
          repeat' split
          all_goals first | rfl | omega | simp_all
        rw [hkk] at h6
        clear hn hk hrow hm hFix hTur hDD hm1
        by_cases hfx : L[k].Fixed = true
        · rw [if_pos hfx] at hR
          rw [hR] at kL
          simp only at kL
          clear hR
          repeat' (first
            | (with_reducible refine CallG.pure (kL) ?_)
            | (with_reducible refine CallQ.pure (kL) ?_)
            | (refine CallG.at (k_l41_awake h0) ?_)
            | (with_reducible refine condD (fun _ => ?_) (fun _ => ?_)) <;> try (exfalso; omega)
            | (with_reducible refine condB (fun _ => ?_) (fun _ => ?_))
            | (with_reducible refine guardD (fun _ => ?_) (fun _ => ?_)) <;> try (exfalso; omega)
            | (with_reducible refine guardB (fun _ => ?_) (fun _ => ?_))
            | (with_reducible refine app_row (by assumption) src_lst (by simp only [List.length_map, List.length_append, List.length_cons, List.length_nil]; omega) (by simp only [List.length_map, List.length_append, List.length_cons, List.length_nil]; omega) (fun _ _ => ?_))
            | (simp -dsimp (disch := first | omega | assumption) only [↓PB, ↓reduceIte, QB, QC, QD, QE, Nat.reduceAdd, Nat.reduceMul, Nat.reduceEqDiff, Nat.reduceLT, Nat.reduceLeDiff, reduceCtorEq, QF, QG, QH, QI, QJ, *]))
          all_goals exact RetG.same ⟨rfl, rfl⟩
        · rw [if_neg hfx] at hR
          by_cases htu : 64 ≤ L[k].Turns
          · rw [if_pos htu] at hR
            rw [hR] at kL
            simp only at kL
            clear hR
            repeat' (first
              | (with_reducible refine CallG.pure (kL) ?_)
              | (with_reducible refine CallQ.pure (kL) ?_)
              | (refine CallG.at (k_l41_awake h0) ?_)
              | (with_reducible refine condD (fun _ => ?_) (fun _ => ?_)) <;> try (exfalso; omega)
              | (with_reducible refine condB (fun _ => ?_) (fun _ => ?_))
              | (with_reducible refine guardD (fun _ => ?_) (fun _ => ?_)) <;> try (exfalso; omega)
              | (with_reducible refine guardB (fun _ => ?_) (fun _ => ?_))
              | (with_reducible refine app_row (by assumption) src_lst (by simp only [List.length_map, List.length_append, List.length_cons, List.length_nil]; omega) (by simp only [List.length_map, List.length_append, List.length_cons, List.length_nil]; omega) (fun _ _ => ?_))
              | (simp -dsimp (disch := first | omega | assumption) only [↓PB, ↓reduceIte, QB, QC, QD, QE, Nat.reduceAdd, Nat.reduceMul, Nat.reduceEqDiff, Nat.reduceLT, Nat.reduceLeDiff, reduceCtorEq, QF, QG, QH, QI, QJ, *]))
            all_goals exact RetG.same ⟨rfl, rfl⟩
          · rw [if_neg htu] at hR
            rw [hR] at kL
            simp only at kL
            clear hR
            repeat' (first
              | (with_reducible refine CallG.pure (kL) ?_)
              | (with_reducible refine CallQ.pure (kL) ?_)
              | (refine CallG.at (k_l41_awake h0) ?_)
              | (with_reducible refine condD (fun _ => ?_) (fun _ => ?_)) <;> try (exfalso; omega)
              | (with_reducible refine condB (fun _ => ?_) (fun _ => ?_))
              | (with_reducible refine guardD (fun _ => ?_) (fun _ => ?_)) <;> try (exfalso; omega)
              | (with_reducible refine guardB (fun _ => ?_) (fun _ => ?_))
              | (with_reducible refine app_row (by assumption) src_lst (by simp only [List.length_map, List.length_append, List.length_cons, List.length_nil]; omega) (by simp only [List.length_map, List.length_append, List.length_cons, List.length_nil]; omega) (fun _ _ => ?_))
              | (simp -dsimp (disch := first | omega | assumption) only [↓PB, ↓reduceIte, QB, QC, QD, QE, Nat.reduceAdd, Nat.reduceMul, Nat.reduceEqDiff, Nat.reduceLT, Nat.reduceLeDiff, reduceCtorEq, QF, QG, QH, QI, QJ, *]))
            all_goals exact RetG.same ⟨rfl, rfl⟩
  · exact RetG.same ⟨rfl, rfl⟩
end Go.Av

namespace Go.Av
open Go.ChangeShapes Go.WideShapes Go.ChangeAt Go.RowKit Go.Proofs.Tryz Go.Proofs.YtjnenmbfojkoeaaGreatDoor
set_option linter.unusedVariables false

set_option maxRecDepth 100000 in
theorem historyLast_lifted (os : Os) (started : os.Started) (H : Type) (enc : TypeId × Value → H) :
    ReturnsInHanded {} checked os 5 .any (fun w args => (Rows.historyLastSpec.pre enc prog f5 Rows.historyLastRow.domain false w args ∧ laidMetH prog Rows.historyLastRow.laid w) ∧ sizedMet enc prog f5 (OpenSpec.ofChange Rows.historyLastSpec) false w args)
      (Rows.historyLastSpec.post enc prog f5 Rows.historyLastRow.apart Rows.historyLastRow.fresh Rows.historyLastRow.handsOn Rows.historyLastRow.again) := by
  refine returnsInHanded_of_change_and (C := checked) (X := fun w _ => laidMetH prog Rows.historyLastRow.laid w) (fun _ _ _ hh h => h.of_heap hh) own started (by kernel_rfl) func5
    (ChangeSpec.witness_shaped (enc := enc) (C := checked) (os := os) (X := fun w _ => laidMetH prog Rows.historyLastRow.laid w) false (World.laidAll prog os Rows.historyLastRow.laid) #[zeroStateV, .int .i64 0] 20 (World.laidAll_os _ _ _)
      (World.shaped_of_ZipB (by kernel_rfl) (by kernel_rfl)) (by kernel_rfl) (by kernel_rfl) (by kernel_rfl)
      (by rw [MakeChecks.laidMetH_plain _ _ _ (by kernel_rfl)]; exact laidMet_laidAll _ (by kernel_rfl) (by kernel_rfl))) ?_
  intro W base args ds gs before hval0 hW hc _ hL _
  have hval : ∀ (j : Nat) t v, f5.params[j]? = some t → args[j]? = some v → Value.okWide prog W .any base t v := hval0
  have hW' := hW
  obtain ⟨p, q, hA0, hV, rfl, _, _⟩ := hW
  have hA : DataW.TrodAll enc prog W 0 (fun _ => true) true f5.params.toList args.toList ds p := hA0
  rw [params5] at hA hval
  obtain ⟨v0, vs0, d0, ds0, p0, q0, hargs, rfl, rfl, h0, r0⟩ := trodAll_cons hA
  obtain ⟨v1, vs1, d1, ds1, p1, q1, rfl, rfl, rfl, h1, r1⟩ := trodAll_cons r0
  obtain ⟨rfl, rfl, rfl⟩ := trodAll_nil r1
  obtain rfl : args = #[v0, v1] := by cases args; simp_all
  obtain ⟨rfl, rfl⟩ := trodVars_none hV
  obtain ⟨e, fr, hg⟩ := laid_pow hL
  obtain ⟨s, hs, ws⟩ := rv_struct (rp_State (enc := enc) (w := W)) h0 (fun a => by simp [encState, AV.cells])
  have k1 := h1
  obtain ⟨u, rfl, rfl, rfl, -⟩ := open_int underlying3 (hval 1 3 v1 rfl rfl) h1
  have hok := okState_of ws
  have fin := calls_top (P := prog) (f := 5) (aas := [encState s, .int u]) (x := .bool true) (vs := [v0, .int .i64 u]) (Go.Proofs.enters_of func5 (by kernel_rfl) rfl) hg
    (fun σ h => k_HistoryLast h s hok.1 u) ⟨rfl, fun i hi hj => match i, hi, hj with
      | 0, _, _ => hs
      | 1, _, _ => .sc _ rfl⟩
  have hlt : ∀ x ∈ p0, x.block < W.heap.size := fun x hx => hW'.lt x (by simp [hx])
  simp only [List.append_nil] at hW'
  refine fin.mono fun e W' ⟨he, hb⟩ => ?_
  subst he
  refine ⟨_, rfl, post_below (pa := p0) (pv := []) hW' (fun _ _ _ => trodAll_mk1 (shut_bool underlying4 _)) ?_ (fun _ _ => rfl) (by simp) hb (ok_one (by kernel_rfl) rfl (okWide_bool_mk underlying4 _))⟩
  intro sp hsp
  have j0 := WideElems.Trod_stays (sp' := sp) laidOut (by kernel_rfl) (of_decide_eq_true (by kernel_rfl)) h0 (fun x hx => hb.same (hlt x (by simp [hx]))) (fun x hx => hsp x (by simp [hx]))
  have j1 := WideElems.Trod_stays (W' := W') (sp' := sp) laidOut (by kernel_rfl) (of_decide_eq_true (by kernel_rfl)) k1 (fun x hx => by simp at hx) (fun x hx => by simp at hx)
  have := trodAll_cons_mk j0 (trodAll_mk1 j1)
  simp only [List.append_nil] at this
  exact this
end Go.Av

namespace Go.Av
open Go.ChangeShapes Go.WideShapes Go.ChangeAt Go.RowKit Go.Proofs.Tryz Go.Proofs.YtjnenmbfojkoeaaGreatDoor
set_option linter.unusedVariables false
set_option maxRecDepth 100000

/-! The row's closed facts, one by one. -/
abbrev historyLastC : OpenClaim := Rows.historyLastRow
noncomputable abbrev seatP : Program := Tryz.pinned.checked.prog
theorem historyLast_j1 : (historyLastC.wf (OpenSpec.ofChange Rows.historyLastSpec)) = true := by kernel_rfl
theorem historyLast_j2 : (laidOutB seatP) = true := by kernel_rfl
theorem historyLast_j3 : (mapsRowed seatP) = true := by kernel_rfl
theorem historyLast_j4 : (f5.params.all (seatP.readableRec ·)) = true := by kernel_rfl
theorem historyLast_j5 : (namedTie seatP historyLastC.named Rows.historyLastSpec.vars) = true := by kernel_rfl
theorem historyLast_j6 : ((historyLastC.stops == [])) = true := by kernel_rfl
theorem historyLast_j7 : ((seatP.stops == [])) = true := by kernel_rfl
theorem historyLast_j8 : ((historyLastC.knobs == [])) = true := by kernel_rfl
theorem historyLast_j9 : ((seatP.stopKnobs == [])) = true := by kernel_rfl
theorem historyLast_j10 : ((historyLastC.inPlace == seatP.inPlace 5)) = true := by kernel_rfl
theorem historyLast_j11 : ((historyLastC.unfollowed == seatP.unfollowed 5)) = true := by kernel_rfl
theorem historyLast_j12 : ((historyLastC.recurses == seatP.recurses 5)) = true := by kernel_rfl
theorem historyLast_j13 : ((historyLastC.named == seatP.varsNamed 5)) = true := by kernel_rfl
theorem historyLast_j14 : ((historyLastC.maps == (f5.params.toList ++ Rows.historyLastSpec.plain.varTypes seatP).any (seatP.mapsRec ·))) = true := by kernel_rfl
theorem historyLast_j15 : ((historyLastC.ifaces == (f5.params.toList ++ Rows.historyLastSpec.plain.varTypes seatP).any (seatP.ifacesRec ·))) = true := by kernel_rfl
theorem historyLast_j16 : ((historyLastC.mapsOut == seatP.mapsAmong f5.resultTypes.toList)) = true := by kernel_rfl
theorem historyLast_j17 : ((historyLastC.loops == (f5.params.toList ++ Rows.historyLastSpec.plain.varTypes seatP).any (seatP.loopsFrom ·))) = true := by kernel_rfl
theorem historyLast_j18 : ((historyLastC.wideKeys == (f5.params.toList ++ Rows.historyLastSpec.plain.varTypes seatP ++ f5.resultTypes.toList).any (seatP.wideKeysFrom ·))) = true := by kernel_rfl
theorem historyLast_j19 : (Rows.historyLastSpec.vars.all (seatP.varReadable ·)) = true := by kernel_rfl
theorem historyLast_j20 : (f5.resultTypes.all (fun t => seatP.readableRec t && decide (t < seatP.types.size))) = true := by kernel_rfl
theorem historyLast_j21 : ((historyLastC.ifacesOut == f5.resultTypes.toList.any (seatP.ifacesRec ·))) = true := by kernel_rfl
theorem historyLast_j22 : ((historyLastC.loopsOut == f5.resultTypes.toList.any (seatP.loopsFrom ·))) = true := by kernel_rfl
theorem historyLast_j23 : ((historyLastC.plainKeys == seatP.plainKeys)) = true := by kernel_rfl
theorem historyLast_j24 : (historyLastC.shortTexts.isNone) = true := by kernel_rfl
theorem historyLast_j25 : (seatP.stopsHeard) = true := by kernel_rfl
theorem historyLast_j26 : (seatP.mayEnter) = true := by kernel_rfl
theorem historyLast_j27 : ((historyLastC.lifted == seatP.liftsFinal)) = true := by kernel_rfl
theorem historyLast_j28 : ((seatP.make == some historyLastC.make)) = true := by kernel_rfl
theorem historyLast_j29 : ((historyLastC.kinds == (if historyLastC.domain.isEmpty then [] else f5.params.toList.map fun t => match seatP.underlying t with | some (.int k) => some k | _ => none))) = true := by kernel_rfl
theorem historyLast_j30 : ((historyLastC.pinned == historyLastC.pinnedBy)) = true := by kernel_rfl
theorem historyLast_j31 : ((historyLastC.veiled == (f5.params.toList ++ Rows.historyLastSpec.plain.varTypes seatP ++ f5.resultTypes.toList).any (seatP.veiledRec ·))) = true := by kernel_rfl
theorem historyLast_j32 : (historyLastC.veiledFits seatP f5.params.toList (f5.params.toList ++ Rows.historyLastSpec.plain.varTypes seatP ++ f5.resultTypes.toList)) = true := by kernel_rfl
theorem and_t {a b : Bool} (h : a = true) (k : b = true) : (a && b) = true := by rw [h, k]; rfl
theorem historyLast_closed : joinedFacts Tryz.pinned.checked.prog 5 f5 Rows.historyLastSpec Rows.historyLastRow = true := (and_t (and_t (and_t (and_t (and_t (and_t (and_t (and_t (and_t (and_t (and_t (and_t (and_t (and_t (and_t (and_t (and_t (and_t (and_t (and_t (and_t (and_t (and_t (and_t (and_t (and_t (and_t (and_t (and_t (and_t (and_t historyLast_j1 historyLast_j2) historyLast_j3) historyLast_j4) historyLast_j5) historyLast_j6) historyLast_j7) historyLast_j8) historyLast_j9) historyLast_j10) historyLast_j11) historyLast_j12) historyLast_j13) historyLast_j14) historyLast_j15) historyLast_j16) historyLast_j17) historyLast_j18) historyLast_j19) historyLast_j20) historyLast_j21) historyLast_j22) historyLast_j23) historyLast_j24) historyLast_j25) historyLast_j26) historyLast_j27) historyLast_j28) historyLast_j29) historyLast_j30) historyLast_j31) historyLast_j32)
theorem historyLast_name : seatP.funcNamed historyLastC.func = some 5 := by kernel_rfl
theorem historyLast_wf : historyLastC.wfByText (OpenSpec.ofChange Rows.historyLastSpec) = true := by kernel_rfl
theorem historyLast_main : seatP.mainIs = some (true, "10fe2a48d5badb2575ec12454e08267ef4132cd7c55266829f274ce0264a3388".toList) := by kernel_rfl
theorem historyLast_looks : false = seatP.looks [] := by kernel_rfl
theorem historyLast_goes : false = historyLastC.goesBy seatP := by kernel_rfl
theorem historyLast_stand : ([31, 3].all fun u => !seatP.wantsStandIn u) = true := by kernel_rfl

theorem historyLast_holds : Rows.HistoryLastSaid :=
  OpenClaim.holds_of_wide 5 f5 rfl rfl rfl rfl rfl rfl rfl ⟨rfl, rfl, rfl, rfl, rfl⟩ rfl rfl rfl rfl rfl historyLast_name func5 historyLast_closed
    (of_decide_eq_true (by kernel_rfl)) (by unfold Func.isWrapper; first | (rw [if_pos (by decide +kernel)]; kernel_rfl) | (rw [if_neg (by decide +kernel)]; exact ⟨rfl, rfl⟩))
    (fun os started H enc _ => historyLast_lifted os started H enc)

theorem historyLast_card : Rows.HistoryLastCardSaid :=
  Claim7.holds_tied_plain_at .later [] [.data, .data, .data] true (true, "10fe2a48d5badb2575ec12454e08267ef4132cd7c55266829f274ce0264a3388") false historyLast_holds (fun _ h => by cases h) historyLast_wf (fun _ h => by cases h) historyLast_row_tie rfl ⟨rfl, rfl⟩ historyLast_main rfl
    (fun f fn hf hfn => by
      obtain rfl : f = 5 := Option.some.inj (historyLast_name.symm.trans hf) |>.symm
      obtain rfl : fn = f5 := (Option.some.inj (func5.symm.trans hfn)).symm
      exact ⟨historyLast_looks, fun j t ht => by
        rw [params5] at ht
        have hm : t ∈ [31, 3] := by simpa using Array.mem_of_getElem? ht
        have hall := historyLast_stand
        exact (show seatP.wantsStandIn t = false by simpa using List.all_eq_true.1 hall t hm)⟩)
    historyLast_goes
end Go.Av

namespace Go.Proofs.YtjnenmbfojkoeaaGreatDoor
/-- HistoryLast holds for every input: the tied card's statement, with no condition beyond the row's own. -/
theorem historyLast_card : Rows.HistoryLastCardSaid := Go.Av.historyLast_card
#print axioms historyLast_card
end Go.Proofs.YtjnenmbfojkoeaaGreatDoor
