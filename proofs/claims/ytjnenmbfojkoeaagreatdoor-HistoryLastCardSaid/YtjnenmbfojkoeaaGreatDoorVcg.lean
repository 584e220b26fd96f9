/- Part 7 of the proof: own lemmas, of no statement. -/
import Derived.Test.YtjnenmbfojkoeaaGreatDoorVce
import Derived.Test.YtjnenmbfojkoeaaGreatDoorProg
import Derived.Test.YtjnenmbfojkoeaaGreatDoorVcf
set_option linter.unusedSimpArgs false
set_option linter.unusedVariables false
set_option linter.defProp false
namespace Go.Av
open Go.Proofs.Tryz
set_option maxRecDepth 100000
set_option linter.unusedSimpArgs false
set_option linter.unusedVariables false

theorem hm : prog.follows .mixedOrders = true := by kernel_rfl
end Go.Av

namespace Go.Av
open Go.Proofs.Tryz
set_option maxRecDepth 100000
set_option linter.unusedSimpArgs false
set_option linter.unusedVariables false

/- r04.ints -/
def c248 : ICode :=
  .seq (.region 1 [⟨(some 4), .mov (.c (.int 0)), none⟩]) <|
  .seq (.seq (.region 3 [⟨(some 5), .mov (.t 0), none⟩,
    ⟨(some 6), .mov (.t 1), none⟩,
    ⟨(some 7), .bin .lss (.t 5) (.t 6), none⟩]) <|
  .cond (.t 7) (.seq (.region 1 [⟨(some 4), .mov (.c (.int (-1))), none⟩]) <|
  .ret) (.skip)) <|
  .seq (.seq (.region 3 [⟨(some 8), .mov (.t 0), none⟩,
    ⟨(some 9), .mov (.t 1), none⟩,
    ⟨(some 10), .bin .gtr (.t 8) (.t 9), none⟩]) <|
  .cond (.t 10) (.seq (.region 1 [⟨(some 4), .mov (.c (.int 1)), none⟩]) <|
  .ret) (.skip)) <|
  .seq (.region 1 [⟨(some 4), .mov (.c (.int 0)), none⟩]) <|
  .ret
def ir248 : IFn := ⟨11, [], 2, [.tmp 4], c248⟩
theorem ok248 : compFn prog [] [] f248 = some ir248 := by kernel_rfl
theorem wp248 {a0 a1 : AV} {r : AV} (H : ∀ σ, WpI prog c248 (retQ [.tmp 4] fun v s => v = r ∧ s = σ) (argE [a0, a1]) 0 σ) : Pure prog 248 [a0, a1] r := @pure_of_wp prog hm 248 f248 [] [] ir248 [a0, a1] r func248 ok248 (Nat.le_of_ble_eq_true rfl) H
theorem wa248 {a0 a1 : AV} {σ : Heap} {R : AV → Heap → Prop} (H : WpI prog c248 (retQ [.tmp 4] R) (argE [a0, a1]) 0 σ) : CallsA prog 248 [a0, a1] σ R := @callsA_of_wp prog [] hm 248 f248 [] ir248 [a0, a1] σ R func248 ok248 (Nat.le_of_ble_eq_true rfl) H
/- r04.Compare -/
def c182 : ICode :=
  .seq (.region 3 [⟨(some 2), .bbox 0 (.t 0), none⟩,
    ⟨(some 3), .bbox 1 (.t 1), none⟩,
    ⟨(some 4), .mov (.c (.int 0)), none⟩]) <|
  .seq (.seq (.region 5 [⟨(some 5), .faddr (some 2) 0 (.b 2), none⟩,
    ⟨(some 6), .load (some 2) 1 false (.t 5), none⟩,
    ⟨(some 7), .faddr (some 3) 0 (.b 3), none⟩,
    ⟨(some 8), .load (some 3) 1 false (.t 7), none⟩,
    ⟨(some 9), .bin .neq (.t 6) (.t 8), none⟩]) <|
  .cond (.t 9) (.seq (.region 6 [⟨(some 10), .faddr (some 2) 0 (.b 2), none⟩,
    ⟨(some 11), .load (some 2) 1 false (.t 10), none⟩,
    ⟨(some 12), .faddr (some 3) 0 (.b 3), none⟩,
    ⟨(some 13), .load (some 3) 1 false (.t 12), none⟩,
    ⟨(some 14), .call (.c (.clo 248 [])) [(.t 11), (.t 13)], none⟩,
    ⟨(some 4), .mov (.t 14), none⟩]) <|
  .ret) (.skip)) <|
  .seq (.region 6 [⟨(some 15), .faddr (some 2) 1 (.b 2), none⟩,
    ⟨(some 16), .load (some 2) 1 false (.t 15), none⟩,
    ⟨(some 17), .faddr (some 3) 1 (.b 3), none⟩,
    ⟨(some 18), .load (some 3) 1 false (.t 17), none⟩,
    ⟨(some 19), .call (.c (.clo 248 [])) [(.t 16), (.t 18)], none⟩,
    ⟨(some 4), .mov (.t 19), none⟩]) <|
  .ret
def ir182 : IFn := ⟨20, [2, 3], 2, [.tmp 4], c182⟩
theorem ok182 : compFn prog [2, 3] [] f182 = some ir182 := by kernel_rfl
theorem wp182 {a0 a1 : AV} {r : AV} (H : ∀ σ, WpI prog c182 (retQ [.tmp 4] fun v s => v = r ∧ s = σ) (argE [a0, a1]) 0 σ) : Pure prog 182 [a0, a1] r := @pure_of_wp prog hm 182 f182 [2, 3] [] ir182 [a0, a1] r func182 ok182 (Nat.le_of_ble_eq_true rfl) H
theorem wa182 {a0 a1 : AV} {σ : Heap} {R : AV → Heap → Prop} (H : WpI prog c182 (retQ [.tmp 4] R) (argE [a0, a1]) 0 σ) : CallsA prog 182 [a0, a1] σ R := @callsA_of_wp prog [2, 3] hm 182 f182 [] ir182 [a0, a1] σ R func182 ok182 (Nat.le_of_ble_eq_true rfl) H
/- r12.Compare -/
def c79 : ICode :=
  .seq (.region 3 [⟨(some 2), .bbox 0 (.t 0), none⟩,
    ⟨(some 3), .bbox 1 (.t 1), none⟩,
    ⟨(some 4), .mov (.c (.int 0)), none⟩]) <|
  .seq (.seq (.region 5 [⟨(some 5), .faddr (some 2) 3 (.b 2), none⟩,
    ⟨(some 6), .load (some 2) 1 false (.t 5), none⟩,
    ⟨(some 7), .faddr (some 3) 3 (.b 3), none⟩,
    ⟨(some 8), .load (some 3) 1 false (.t 7), none⟩,
    ⟨(some 9), .bin .lss (.t 6) (.t 8), none⟩]) <|
  .cond (.t 9) (.seq (.region 1 [⟨(some 4), .mov (.c (.int (-1))), none⟩]) <|
  .ret) (.skip)) <|
  .seq (.seq (.region 5 [⟨(some 10), .faddr (some 2) 3 (.b 2), none⟩,
    ⟨(some 11), .load (some 2) 1 false (.t 10), none⟩,
    ⟨(some 12), .faddr (some 3) 3 (.b 3), none⟩,
    ⟨(some 13), .load (some 3) 1 false (.t 12), none⟩,
    ⟨(some 14), .bin .gtr (.t 11) (.t 13), none⟩]) <|
  .cond (.t 14) (.seq (.region 1 [⟨(some 4), .mov (.c (.int 1)), none⟩]) <|
  .ret) (.skip)) <|
  .seq (.region 6 [⟨(some 15), .faddr (some 2) 0 (.b 2), none⟩,
    ⟨(some 16), .load (some 2) 2 true (.t 15), none⟩,
    ⟨(some 17), .faddr (some 3) 0 (.b 3), none⟩,
    ⟨(some 18), .load (some 3) 2 true (.t 17), none⟩,
    ⟨(some 19), .call (.c (.clo 182 [])) [(.t 16), (.t 18)], none⟩,
    ⟨(some 4), .mov (.t 19), none⟩]) <|
  .ret
def ir79 : IFn := ⟨20, [2, 3], 2, [.tmp 4], c79⟩
theorem ok79 : compFn prog [2, 3] [] f79 = some ir79 := by kernel_rfl
theorem wp79 {a0 a1 : AV} {r : AV} (H : ∀ σ, WpI prog c79 (retQ [.tmp 4] fun v s => v = r ∧ s = σ) (argE [a0, a1]) 0 σ) : Pure prog 79 [a0, a1] r := @pure_of_wp prog hm 79 f79 [2, 3] [] ir79 [a0, a1] r func79 ok79 (Nat.le_of_ble_eq_true rfl) H
theorem wa79 {a0 a1 : AV} {σ : Heap} {R : AV → Heap → Prop} (H : WpI prog c79 (retQ [.tmp 4] R) (argE [a0, a1]) 0 σ) : CallsA prog 79 [a0, a1] σ R := @callsA_of_wp prog [2, 3] hm 79 f79 [] ir79 [a0, a1] σ R func79 ok79 (Nat.le_of_ble_eq_true rfl) H
/- r08.Get -/
def c81l0 : ICode :=
  .seq (.seq (.region 4 [⟨(some 6), .mov (.t 5), none⟩,
    ⟨(some 7), .mov (.t 0), none⟩,
    ⟨(some 8), .len (.t 7), none⟩,
    ⟨(some 9), .bin .lss (.t 6) (.t 8), none⟩]) <|
  .cond (.t 9) (.skip) (.exit 0)) <|
  .seq (.block 1 (.seq (.region 7 [⟨(some 12), .mov (.t 0), none⟩,
    ⟨(some 13), .mov (.t 5), none⟩,
    ⟨(some 14), .iaddrS 3 (.t 12) (.t 13), none⟩,
    ⟨(some 15), .faddr none 0 (.t 14), none⟩,
    ⟨(some 16), .load none 2 true (.t 15), none⟩,
    ⟨(some 17), .load (some 3) 2 true (.b 3), none⟩,
    ⟨(some 18), .eql false [.int .i64, .int .i64] (.t 16) (.t 17), none⟩]) <|
  .cond (.t 18) (.seq (.region 6 [⟨(some 19), .mov (.t 0), none⟩,
    ⟨(some 20), .mov (.t 5), none⟩,
    ⟨(some 21), .iaddrS 3 (.t 19) (.t 20), none⟩,
    ⟨(some 22), .faddr none 2 (.t 21), none⟩,
    ⟨(some 23), .load none 1 false (.t 22), none⟩,
    ⟨(some 4), .mov (.t 23), none⟩]) <|
  .ret) (.skip))) <|
  .region 3 [⟨(some 10), .mov (.t 5), none⟩,
    ⟨(some 11), .bin .add (.t 10) (.c (.int 1)), none⟩,
    ⟨(some 5), .mov (.t 11), none⟩]
def c81 : ICode :=
  .seq (.region 2 [⟨(some 3), .bbox 0 (.t 1), none⟩,
    ⟨(some 4), .mov (.c (.int 0)), none⟩]) <|
  .seq (.seq (.region 1 [⟨(some 5), .mov (.c (.int 0)), none⟩]) <|
  .block 0 (.loop c81l0)) <|
  .seq (.region 1 [⟨(some 4), .mov (.c (.int 0)), none⟩]) <|
  .ret
def ir81 : IFn := ⟨24, [3], 2, [.tmp 4], c81⟩
theorem ok81 : compFn prog [3] [] f81 = some ir81 := by kernel_rfl
theorem wp81 {a0 a1 : AV} {r : AV} (H : ∀ σ, WpI prog c81 (retQ [.tmp 4] fun v s => v = r ∧ s = σ) (argE [a0, a1]) 0 σ) : Pure prog 81 [a0, a1] r := @pure_of_wp prog hm 81 f81 [3] [] ir81 [a0, a1] r func81 ok81 (Nat.le_of_ble_eq_true rfl) H
theorem wa81 {a0 a1 : AV} {σ : Heap} {R : AV → Heap → Prop} (H : WpI prog c81 (retQ [.tmp 4] R) (argE [a0, a1]) 0 σ) : CallsA prog 81 [a0, a1] σ R := @callsA_of_wp prog [3] hm 81 f81 [] ir81 [a0, a1] σ R func81 ok81 (Nat.le_of_ble_eq_true rfl) H


theorem k_r04_ints (a b : Int) : Pure prog 248 [.int a, .int b] (.int (cmpI a b)) := by
  refine wp248 fun σ => ?_
  unfold c248
  try simp -dsimp (disch := first | omega | assumption) only [↓PB, ↓reduceIte, QB, QC, QD, QE, Nat.reduceAdd, Nat.reduceMul, Nat.reduceEqDiff, Nat.reduceLT, Nat.reduceLeDiff, reduceCtorEq]
  rw [CondK_dec]
  refine ⟨fun h => ?_, fun h => ?_⟩ <;> (try simp -dsimp (disch := first | omega | assumption) only [↓PB, ↓reduceIte, QB, QC, QD, QE, Nat.reduceAdd, Nat.reduceMul, Nat.reduceEqDiff, Nat.reduceLT, Nat.reduceLeDiff, reduceCtorEq, h])
  · exact RetG.same ⟨by simp [t4, cmpI, h], rfl⟩
  rw [CondK_dec]
  refine ⟨fun h2 => ?_, fun h2 => ?_⟩ <;> (try simp -dsimp (disch := first | omega | assumption) only [↓PB, ↓reduceIte, QB, QC, QD, QE, Nat.reduceAdd, Nat.reduceMul, Nat.reduceEqDiff, Nat.reduceLT, Nat.reduceLeDiff, reduceCtorEq, h2])
  · exact RetG.same ⟨by simp [t4, cmpI, h, h2], rfl⟩
  · exact RetG.same ⟨by simp [t4, cmpI, h, h2], rfl⟩

theorem k_r04_Compare (a b : Dot) : Pure prog 182 [encDot a, encDot b] (.int (cmpDot a b)) := by
  refine wp182 fun σ => ?_
  unfold c182
  try simp -dsimp (disch := first | omega | assumption) only [↓PB, ↓reduceIte, QB, QC, QD, QE, Nat.reduceAdd, Nat.reduceMul, Nat.reduceEqDiff, Nat.reduceLT, Nat.reduceLeDiff, reduceCtorEq]
  rw [CondK_dec]
  refine ⟨fun h => ?_, fun h => ?_⟩ <;> (try simp -dsimp (disch := first | omega | assumption) only [↓PB, ↓reduceIte, QB, QC, QD, QE, Nat.reduceAdd, Nat.reduceMul, Nat.reduceEqDiff, Nat.reduceLT, Nat.reduceLeDiff, reduceCtorEq, h])
  · refine CallG.pure (k_r04_ints _ _) ?_
    try simp -dsimp (disch := first | omega | assumption) only [↓PB, ↓reduceIte, QB, QC, QD, QE, Nat.reduceAdd, Nat.reduceMul, Nat.reduceEqDiff, Nat.reduceLT, Nat.reduceLeDiff, reduceCtorEq]
    exact RetG.same ⟨by simp [t4, cmpDot, h], rfl⟩
  · refine CallG.pure (k_r04_ints _ _) ?_
    try simp -dsimp (disch := first | omega | assumption) only [↓PB, ↓reduceIte, QB, QC, QD, QE, Nat.reduceAdd, Nat.reduceMul, Nat.reduceEqDiff, Nat.reduceLT, Nat.reduceLeDiff, reduceCtorEq]
    exact RetG.same ⟨by simp [t4, cmpDot, h], rfl⟩

theorem k_r08_Get (l : List Undo) (d : Dot) (hl : l.length < 4611686018427387904) : Pure prog 81 [encL 3 encUndo l, encDot d] (.int (getU l d)) := by
  refine wp81 fun σ => ?_
  unfold c81
  try simp -dsimp (disch := first | omega | assumption) only [↓PB, ↓reduceIte, QB, QC, QD, QE, Nat.reduceAdd, Nat.reduceMul, Nat.reduceEqDiff, Nat.reduceLT, Nat.reduceLeDiff, reduceCtorEq]
  refine loop_up l.length (fun i e s => e 0 = encL 3 encUndo l ∧ e 3 = .box 0 (encDot d) ∧ e 5 = .int i ∧ s = σ ∧ getU l d = getU (l.drop i) d) 0 (Nat.zero_le _) ?_ ?_
  · exact ⟨by (try simp -dsimp (disch := first | omega | assumption) only [↓PB, ↓reduceIte, QB, QC, QD, QE, Nat.reduceAdd, Nat.reduceMul, Nat.reduceEqDiff, Nat.reduceLT, Nat.reduceLeDiff, reduceCtorEq]), by (try simp -dsimp (disch := first | omega | assumption) only [↓PB, ↓reduceIte, QB, QC, QD, QE, Nat.reduceAdd, Nat.reduceMul, Nat.reduceEqDiff, Nat.reduceLT, Nat.reduceLeDiff, reduceCtorEq]), by (try simp -dsimp (disch := first | omega | assumption) only [↓PB, ↓reduceIte, QB, QC, QD, QE, Nat.reduceAdd, Nat.reduceMul, Nat.reduceEqDiff, Nat.reduceLT, Nat.reduceLeDiff, reduceCtorEq]) <;> rfl, rfl, by simp⟩
  · rintro i e n s hi ⟨h0, h3, h5, rfl, hg⟩
    unfold c81l0
    try simp -dsimp (disch := first | omega | assumption) only [↓PB, ↓reduceIte, QB, QC, QD, QE, Nat.reduceAdd, Nat.reduceMul, Nat.reduceEqDiff, Nat.reduceLT, Nat.reduceLeDiff, reduceCtorEq, h0, h3, h5]
    rw [CondK_dec]
    refine ⟨fun h => ?_, fun h => ?_⟩
    · have hlt : i < l.length := by omega
      have hx : l[i]? = some l[i] := List.getElem?_eq_getElem hlt
      rw [List.drop_eq_getElem_cons hlt, getU_cons] at hg
      try simp -dsimp (disch := first | omega | assumption) only [↓PB, ↓reduceIte, QB, QC, QD, QE, Nat.reduceAdd, Nat.reduceMul, Nat.reduceEqDiff, Nat.reduceLT, Nat.reduceLeDiff, reduceCtorEq, h0, h3, h5, hx]
      rw [CondK_dec]
      refine ⟨fun h2 => ?_, fun h2 => ?_⟩
      · try simp -dsimp (disch := first | omega | assumption) only [↓PB, ↓reduceIte, QB, QC, QD, QE, Nat.reduceAdd, Nat.reduceMul, Nat.reduceEqDiff, Nat.reduceLT, Nat.reduceLeDiff, reduceCtorEq, h0, h3, h5, hx]
        exact RetG.same ⟨by rw [hg, if_pos h2]; rfl, rfl⟩
      · try simp -dsimp (disch := first | omega | assumption) only [↓PB, ↓reduceIte, QB, QC, QD, QE, Nat.reduceAdd, Nat.reduceMul, Nat.reduceEqDiff, Nat.reduceLT, Nat.reduceLeDiff, reduceCtorEq, h0, h3, h5, hx]
        exact ⟨hlt, by simp, by rw [hg, if_neg h2]⟩
    · try simp -dsimp (disch := first | omega | assumption) only [↓PB, ↓reduceIte, QB, QC, QD, QE, Nat.reduceAdd, Nat.reduceMul, Nat.reduceEqDiff, Nat.reduceLT, Nat.reduceLeDiff, reduceCtorEq, h0, h3, h5]
      refine RetG.same ⟨?_, rfl⟩
      rw [hg, List.drop_eq_nil_of_le (by omega)]
      rfl

end Go.Av

namespace Go.Av
open Go.Proofs.Tryz
set_option maxRecDepth 100000
set_option linter.unusedSimpArgs false
set_option linter.unusedVariables false

/- r04.Right -/
def c96 : ICode :=
  .seq (.region 2 [⟨(some 1), .bbox 0 (.t 0), none⟩,
    ⟨(some 2), .mov (.c (.bool false)), none⟩]) <|
  .seq (.region 19 [⟨(some 3), .faddr (some 1) 0 (.b 1), none⟩,
    ⟨(some 4), .load (some 1) 1 false (.t 3), none⟩,
    ⟨(some 5), .bin .geq (.t 4) (.c (.int 0)), none⟩,
    ⟨(some 6), .mov (.t 5), none⟩,
    ⟨(some 7), .faddr (some 1) 0 (.b 1), (some (6, true))⟩,
    ⟨(some 8), .load (some 1) 1 false (.t 7), (some (6, true))⟩,
    ⟨(some 9), .bin .leq (.t 8) (.c (.int 15)), (some (6, true))⟩,
    ⟨(some 10), .pick (.t 6) (.t 9) (.c (.bool false)), none⟩,
    ⟨(some 11), .mov (.t 10), none⟩,
    ⟨(some 12), .faddr (some 1) 1 (.b 1), (some (11, true))⟩,
    ⟨(some 13), .load (some 1) 1 false (.t 12), (some (11, true))⟩,
    ⟨(some 14), .bin .geq (.t 13) (.c (.int 1)), (some (11, true))⟩,
    ⟨(some 15), .pick (.t 11) (.t 14) (.c (.bool false)), none⟩,
    ⟨(some 16), .mov (.t 15), none⟩,
    ⟨(some 17), .faddr (some 1) 1 (.b 1), (some (16, true))⟩,
    ⟨(some 18), .load (some 1) 1 false (.t 17), (some (16, true))⟩,
    ⟨(some 19), .bin .leq (.t 18) (.c (.int 1048576)), (some (16, true))⟩,
    ⟨(some 20), .pick (.t 16) (.t 19) (.c (.bool false)), none⟩,
    ⟨(some 2), .mov (.t 20), none⟩]) <|
  .ret
def ir96 : IFn := ⟨21, [1], 1, [.tmp 2], c96⟩
theorem ok96 : compFn prog [1] [] f96 = some ir96 := by kernel_rfl
theorem wp96 {a0 : AV} {r : AV} (H : ∀ σ, WpI prog c96 (retQ [.tmp 2] fun v s => v = r ∧ s = σ) (argE [a0]) 0 σ) : Pure prog 96 [a0] r := @pure_of_wp prog hm 96 f96 [1] [] ir96 [a0] r func96 ok96 (Nat.le_of_ble_eq_true rfl) H
theorem wa96 {a0 : AV} {σ : Heap} {R : AV → Heap → Prop} (H : WpI prog c96 (retQ [.tmp 2] R) (argE [a0]) 0 σ) : CallsA prog 96 [a0] σ R := @callsA_of_wp prog [1] hm 96 f96 [] ir96 [a0] σ R func96 ok96 (Nat.le_of_ble_eq_true rfl) H
/- r10.Short -/
def c188l0 : ICode :=
  .seq (.seq (.region 4 [⟨(some 7), .mov (.t 3), none⟩,
    ⟨(some 8), .mov (.t 0), none⟩,
    ⟨(some 9), .len (.t 8), none⟩,
    ⟨(some 10), .bin .lss (.t 7) (.t 9), none⟩]) <|
  .cond (.t 10) (.skip) (.exit 0)) <|
  .seq (.block 1 (.seq (.region 6 [⟨(some 13), .mov (.t 0), none⟩,
    ⟨(some 14), .mov (.t 3), none⟩,
    ⟨(some 15), .iaddrS 1 (.t 13) (.t 14), none⟩,
    ⟨(some 16), .load none 1 false (.t 15), none⟩,
    ⟨(some 17), .slen (.t 16), none⟩,
    ⟨(some 18), .bin .gtr (.t 17) (.c (.int 120)), none⟩]) <|
  .cond (.t 18) (.seq (.region 1 [⟨(some 2), .mov (.c (.bool false)), none⟩]) <|
  .ret) (.skip))) <|
  .region 3 [⟨(some 11), .mov (.t 3), none⟩,
    ⟨(some 12), .bin .add (.t 11) (.c (.int 1)), none⟩,
    ⟨(some 3), .mov (.t 12), none⟩]
def c188 : ICode :=
  .seq (.region 1 [⟨(some 2), .mov (.c (.bool false)), none⟩]) <|
  .seq (.seq (.region 3 [⟨(some 4), .mov (.t 0), none⟩,
    ⟨(some 5), .len (.t 4), none⟩,
    ⟨(some 6), .bin .gtr (.t 5) (.c (.int 12)), none⟩]) <|
  .cond (.t 6) (.seq (.region 1 [⟨(some 2), .mov (.c (.bool false)), none⟩]) <|
  .ret) (.skip)) <|
  .seq (.seq (.region 1 [⟨(some 3), .mov (.c (.int 0)), none⟩]) <|
  .block 0 (.loop c188l0)) <|
  .seq (.region 1 [⟨(some 2), .mov (.c (.bool true)), none⟩]) <|
  .ret
def ir188 : IFn := ⟨19, [], 1, [.tmp 2], c188⟩
theorem ok188 : compFn prog [] [] f188 = some ir188 := by kernel_rfl
theorem wp188 {a0 : AV} {r : AV} (H : ∀ σ, WpI prog c188 (retQ [.tmp 2] fun v s => v = r ∧ s = σ) (argE [a0]) 0 σ) : Pure prog 188 [a0] r := @pure_of_wp prog hm 188 f188 [] [] ir188 [a0] r func188 ok188 (Nat.le_of_ble_eq_true rfl) H
theorem wa188 {a0 : AV} {σ : Heap} {R : AV → Heap → Prop} (H : WpI prog c188 (retQ [.tmp 2] R) (argE [a0]) 0 σ) : CallsA prog 188 [a0] σ R := @callsA_of_wp prog [] hm 188 f188 [] ir188 [a0] σ R func188 ok188 (Nat.le_of_ble_eq_true rfl) H


theorem k_r04_Right (d : Dot) : Pure prog 96 [encDot d] (.bool (dotRight d)) := by
  refine wp96 fun σ => ?_
  unfold c96
  try simp -dsimp (disch := first | omega | assumption) only [↓PB, ↓reduceIte, QB, QC, QD, QE, Nat.reduceAdd, Nat.reduceMul, Nat.reduceEqDiff, Nat.reduceLT, Nat.reduceLeDiff, reduceCtorEq]
  rw [GuardK_dec]
  refine ⟨fun h1 => ?_, fun h1 => ?_⟩ <;> (try simp -dsimp (disch := first | omega | assumption) only [↓PB, ↓reduceIte, QB, QC, QD, QE, Nat.reduceAdd, Nat.reduceMul, Nat.reduceEqDiff, Nat.reduceLT, Nat.reduceLeDiff, reduceCtorEq, h1])
  rotate_left
  · exact RetG.same ⟨by simp [t4, dotRight, *] <;> omega, rfl⟩
  rw [GuardK_dec]
  refine ⟨fun h2 => ?_, fun h2 => ?_⟩ <;> (try simp -dsimp (disch := first | omega | assumption) only [↓PB, ↓reduceIte, QB, QC, QD, QE, Nat.reduceAdd, Nat.reduceMul, Nat.reduceEqDiff, Nat.reduceLT, Nat.reduceLeDiff, reduceCtorEq, h2])
  rotate_left
  · exact RetG.same ⟨by simp [t4, dotRight, *] <;> omega, rfl⟩
  rw [GuardK_dec]
  refine ⟨fun h3 => ?_, fun h3 => ?_⟩ <;> (try simp -dsimp (disch := first | omega | assumption) only [↓PB, ↓reduceIte, QB, QC, QD, QE, Nat.reduceAdd, Nat.reduceMul, Nat.reduceEqDiff, Nat.reduceLT, Nat.reduceLeDiff, reduceCtorEq, h3])
  all_goals exact RetG.same ⟨by simp [t4, dotRight, *] <;> omega, rfl⟩

theorem k_r10_Short (p : List ByteArray) (hl : p.length ≤ 9223372036854775807) : Pure prog 188 [encL 1 AV.str p] (.bool (pathShort p)) := by
  refine wp188 fun σ => ?_
  unfold c188
  try simp -dsimp (disch := first | omega | assumption) only [↓PB, ↓reduceIte, QB, QC, QD, QE, Nat.reduceAdd, Nat.reduceMul, Nat.reduceEqDiff, Nat.reduceLT, Nat.reduceLeDiff, reduceCtorEq]
  rw [CondK_dec]
  refine ⟨fun h0 => ?_, fun h0 => ?_⟩ <;> (try simp -dsimp (disch := first | omega | assumption) only [↓PB, ↓reduceIte, QB, QC, QD, QE, Nat.reduceAdd, Nat.reduceMul, Nat.reduceEqDiff, Nat.reduceLT, Nat.reduceLeDiff, reduceCtorEq, h0])
  · exact RetG.same ⟨by simp [t4, pathShort]; omega, rfl⟩
  refine loop_up p.length (fun i e s => e 0 = encL 1 AV.str p ∧ e 3 = .int i ∧ s = σ ∧ (p.all fun s => decide (s.size ≤ 120)) = ((p.drop i).all fun s => decide (s.size ≤ 120))) 0 (Nat.zero_le _) ?_ ?_
  · exact ⟨by (try simp -dsimp (disch := first | omega | assumption) only [↓PB, ↓reduceIte, QB, QC, QD, QE, Nat.reduceAdd, Nat.reduceMul, Nat.reduceEqDiff, Nat.reduceLT, Nat.reduceLeDiff, reduceCtorEq]), by (try simp -dsimp (disch := first | omega | assumption) only [↓PB, ↓reduceIte, QB, QC, QD, QE, Nat.reduceAdd, Nat.reduceMul, Nat.reduceEqDiff, Nat.reduceLT, Nat.reduceLeDiff, reduceCtorEq]) <;> rfl, rfl, by simp⟩
  · rintro i e n s hi ⟨h0, h3, rfl, hg⟩
    unfold c188l0
    try simp -dsimp (disch := first | omega | assumption) only [↓PB, ↓reduceIte, QB, QC, QD, QE, Nat.reduceAdd, Nat.reduceMul, Nat.reduceEqDiff, Nat.reduceLT, Nat.reduceLeDiff, reduceCtorEq, h0, h3]
    rw [CondK_dec]
    refine ⟨fun h => ?_, fun h => ?_⟩ <;> (try simp -dsimp (disch := first | omega | assumption) only [↓PB, ↓reduceIte, QB, QC, QD, QE, Nat.reduceAdd, Nat.reduceMul, Nat.reduceEqDiff, Nat.reduceLT, Nat.reduceLeDiff, reduceCtorEq, h, h0, h3])
    · have hlt : i < p.length := by omega
      have hx : p[i]? = some p[i] := List.getElem?_eq_getElem hlt
      rw [List.drop_eq_getElem_cons hlt, List.all_cons] at hg
      try simp -dsimp (disch := first | omega | assumption) only [↓PB, ↓reduceIte, QB, QC, QD, QE, Nat.reduceAdd, Nat.reduceMul, Nat.reduceEqDiff, Nat.reduceLT, Nat.reduceLeDiff, reduceCtorEq, h0, h3, hx, slenA]
      rw [CondK_dec]
      refine ⟨fun h2 => ?_, fun h2 => ?_⟩ <;> (try simp -dsimp (disch := first | omega | assumption) only [↓PB, ↓reduceIte, QB, QC, QD, QE, Nat.reduceAdd, Nat.reduceMul, Nat.reduceEqDiff, Nat.reduceLT, Nat.reduceLeDiff, reduceCtorEq, h2, h0, h3, hx])
      · exact RetG.same ⟨by simp [t4, pathShort, hg]; omega, rfl⟩
      · exact ⟨hlt, by simp, by rw [hg, decide_eq_true (by omega), Bool.true_and]⟩
    · refine RetG.same ⟨?_, rfl⟩
      rw [pathShort, hg, List.drop_eq_nil_of_le (by omega), decide_eq_true (by omega)]
      rfl

end Go.Av

namespace Go.Av
open Go.Proofs.Tryz
set_option maxRecDepth 100000
set_option linter.unusedSimpArgs false
set_option linter.unusedVariables false

/- r11.Short -/
def c95 : ICode :=
  .seq (.region 2 [⟨(some 1), .bbox 0 (.t 0), none⟩,
    ⟨(some 2), .mov (.c (.bool false)), none⟩]) <|
  .seq (.region 17 [⟨(some 3), .faddr (some 1) 1 (.b 1), none⟩,
    ⟨(some 4), .load (some 1) 1 false (.t 3), none⟩,
    ⟨(some 5), .call (.c (.clo 188 [])) [(.t 4)], none⟩,
    ⟨(some 6), .mov (.t 5), none⟩,
    ⟨(some 7), .faddr (some 1) 2 (.b 1), (some (6, true))⟩,
    ⟨(some 8), .faddr (some 1) 2 (.t 7), (some (6, true))⟩,
    ⟨(some 9), .load (some 1) 1 false (.t 8), (some (6, true))⟩,
    ⟨(some 10), .slen (.t 9), (some (6, true))⟩,
    ⟨(some 11), .bin .leq (.t 10) (.c (.int 200)), (some (6, true))⟩,
    ⟨(some 12), .pick (.t 6) (.t 11) (.c (.bool false)), none⟩,
    ⟨(some 13), .mov (.t 12), none⟩,
    ⟨(some 14), .faddr (some 1) 6 (.b 1), (some (13, true))⟩,
    ⟨(some 15), .load (some 1) 1 false (.t 14), (some (13, true))⟩,
    ⟨(some 16), .len (.t 15), (some (13, true))⟩,
    ⟨(some 17), .bin .leq (.t 16) (.c (.int 300)), (some (13, true))⟩,
    ⟨(some 18), .pick (.t 13) (.t 17) (.c (.bool false)), none⟩,
    ⟨(some 2), .mov (.t 18), none⟩]) <|
  .ret
def ir95 : IFn := ⟨19, [1], 1, [.tmp 2], c95⟩
theorem ok95 : compFn prog [1] [] f95 = some ir95 := by kernel_rfl
theorem wp95 {a0 : AV} {r : AV} (H : ∀ σ, WpI prog c95 (retQ [.tmp 2] fun v s => v = r ∧ s = σ) (argE [a0]) 0 σ) : Pure prog 95 [a0] r := @pure_of_wp prog hm 95 f95 [1] [] ir95 [a0] r func95 ok95 (Nat.le_of_ble_eq_true rfl) H
theorem wa95 {a0 : AV} {σ : Heap} {R : AV → Heap → Prop} (H : WpI prog c95 (retQ [.tmp 2] R) (argE [a0]) 0 σ) : CallsA prog 95 [a0] σ R := @callsA_of_wp prog [1] hm 95 f95 [] ir95 [a0] σ R func95 ok95 (Nat.le_of_ble_eq_true rfl) H
/- r12.Short -/
def c27l0 : ICode :=
  .seq (.seq (.region 5 [⟨(some 8), .mov (.t 3), none⟩,
    ⟨(some 9), .faddr (some 1) 5 (.b 1), none⟩,
    ⟨(some 10), .load (some 1) 1 false (.t 9), none⟩,
    ⟨(some 11), .len (.t 10), none⟩,
    ⟨(some 12), .bin .lss (.t 8) (.t 11), none⟩]) <|
  .cond (.t 12) (.skip) (.exit 0)) <|
  .seq (.block 1 (.seq (.region 7 [⟨(some 15), .faddr (some 1) 5 (.b 1), none⟩,
    ⟨(some 16), .load (some 1) 1 false (.t 15), none⟩,
    ⟨(some 17), .mov (.t 3), none⟩,
    ⟨(some 18), .iaddrS 7 (.t 16) (.t 17), none⟩,
    ⟨(some 19), .load none 7 true (.t 18), none⟩,
    ⟨(some 20), .call (.c (.clo 95 [])) [(.t 19)], none⟩,
    ⟨(some 21), .un .not (.t 20), none⟩]) <|
  .cond (.t 21) (.seq (.region 1 [⟨(some 2), .mov (.c (.bool false)), none⟩]) <|
  .ret) (.skip))) <|
  .region 3 [⟨(some 13), .mov (.t 3), none⟩,
    ⟨(some 14), .bin .add (.t 13) (.c (.int 1)), none⟩,
    ⟨(some 3), .mov (.t 14), none⟩]
def c27 : ICode :=
  .seq (.region 2 [⟨(some 1), .bbox 0 (.t 0), none⟩,
    ⟨(some 2), .mov (.c (.bool false)), none⟩]) <|
  .seq (.seq (.region 4 [⟨(some 4), .faddr (some 1) 5 (.b 1), none⟩,
    ⟨(some 5), .load (some 1) 1 false (.t 4), none⟩,
    ⟨(some 6), .len (.t 5), none⟩,
    ⟨(some 7), .bin .gtr (.t 6) (.c (.int 20)), none⟩]) <|
  .cond (.t 7) (.seq (.region 1 [⟨(some 2), .mov (.c (.bool false)), none⟩]) <|
  .ret) (.skip)) <|
  .seq (.seq (.region 1 [⟨(some 3), .mov (.c (.int 0)), none⟩]) <|
  .block 0 (.loop c27l0)) <|
  .seq (.region 1 [⟨(some 2), .mov (.c (.bool true)), none⟩]) <|
  .ret
def ir27 : IFn := ⟨22, [1], 1, [.tmp 2], c27⟩
theorem ok27 : compFn prog [1] [] f27 = some ir27 := by kernel_rfl
theorem wp27 {a0 : AV} {r : AV} (H : ∀ σ, WpI prog c27 (retQ [.tmp 2] fun v s => v = r ∧ s = σ) (argE [a0]) 0 σ) : Pure prog 27 [a0] r := @pure_of_wp prog hm 27 f27 [1] [] ir27 [a0] r func27 ok27 (Nat.le_of_ble_eq_true rfl) H
theorem wa27 {a0 : AV} {σ : Heap} {R : AV → Heap → Prop} (H : WpI prog c27 (retQ [.tmp 2] R) (argE [a0]) 0 σ) : CallsA prog 27 [a0] σ R := @callsA_of_wp prog [1] hm 27 f27 [] ir27 [a0] σ R func27 ok27 (Nat.le_of_ble_eq_true rfl) H
/- r22.Short -/
def c74l0 : ICode :=
  .seq (.seq (.region 5 [⟨(some 29), .mov (.t 3), none⟩,
    ⟨(some 30), .faddr (some 1) 0 (.b 1), none⟩,
    ⟨(some 31), .load (some 1) 1 false (.t 30), none⟩,
    ⟨(some 32), .len (.t 31), none⟩,
    ⟨(some 33), .bin .lss (.t 29) (.t 32), none⟩]) <|
  .cond (.t 33) (.skip) (.exit 0)) <|
  .seq (.block 1 (.seq (.region 7 [⟨(some 36), .faddr (some 1) 0 (.b 1), none⟩,
    ⟨(some 37), .load (some 1) 1 false (.t 36), none⟩,
    ⟨(some 38), .mov (.t 3), none⟩,
    ⟨(some 39), .iaddrS 6 (.t 37) (.t 38), none⟩,
    ⟨(some 40), .load none 6 true (.t 39), none⟩,
    ⟨(some 41), .call (.c (.clo 27 [])) [(.t 40)], none⟩,
    ⟨(some 42), .un .not (.t 41), none⟩]) <|
  .cond (.t 42) (.seq (.region 1 [⟨(some 2), .mov (.c (.bool false)), none⟩]) <|
  .ret) (.skip))) <|
  .region 3 [⟨(some 34), .mov (.t 3), none⟩,
    ⟨(some 35), .bin .add (.t 34) (.c (.int 1)), none⟩,
    ⟨(some 3), .mov (.t 35), none⟩]
def c74l1 : ICode :=
  .seq (.seq (.region 2 [⟨(some 43), .mov (.t 4), none⟩,
    ⟨(some 44), .bin .lss (.t 43) (.c (.int 8)), none⟩]) <|
  .cond (.t 44) (.skip) (.exit 2)) <|
  .seq (.block 3 (.seq (.region 6 [⟨(some 47), .mov (.t 4), none⟩,
    ⟨(some 48), .faddr (some 1) 36 (.b 1), none⟩,
    ⟨(some 49), .iaddrA (some 1) 8 1 (.t 48) (.t 47), none⟩,
    ⟨(some 50), .load (some 1) 1 false (.t 49), none⟩,
    ⟨(some 51), .len (.t 50), none⟩,
    ⟨(some 52), .bin .gtr (.t 51) (.c (.int 40)), none⟩]) <|
  .cond (.t 52) (.seq (.region 1 [⟨(some 2), .mov (.c (.bool false)), none⟩]) <|
  .ret) (.skip))) <|
  .region 3 [⟨(some 45), .mov (.t 4), none⟩,
    ⟨(some 46), .bin .add (.t 45) (.c (.int 1)), none⟩,
    ⟨(some 4), .mov (.t 46), none⟩]
def c74 : ICode :=
  .seq (.region 2 [⟨(some 1), .bbox 0 (.t 0), none⟩,
    ⟨(some 2), .mov (.c (.bool false)), none⟩]) <|
  .seq (.seq (.region 24 [⟨(some 5), .faddr (some 1) 0 (.b 1), none⟩,
    ⟨(some 6), .load (some 1) 1 false (.t 5), none⟩,
    ⟨(some 7), .len (.t 6), none⟩,
    ⟨(some 8), .bin .gtr (.t 7) (.c (.int 20)), none⟩,
    ⟨(some 9), .mov (.t 8), none⟩,
    ⟨(some 10), .faddr (some 1) 1 (.b 1), (some (9, false))⟩,
    ⟨(some 11), .load (some 1) 1 false (.t 10), (some (9, false))⟩,
    ⟨(some 12), .len (.t 11), (some (9, false))⟩,
    ⟨(some 13), .bin .gtr (.t 12) (.c (.int 100)), (some (9, false))⟩,
    ⟨(some 14), .pick (.t 9) (.c (.bool true)) (.t 13), none⟩,
    ⟨(some 15), .mov (.t 14), none⟩,
    ⟨(some 16), .faddr (some 1) 2 (.b 1), (some (15, false))⟩,
    ⟨(some 17), .faddr (some 1) 16 (.t 16), (some (15, false))⟩,
    ⟨(some 18), .load (some 1) 1 false (.t 17), (some (15, false))⟩,
    ⟨(some 19), .len (.t 18), (some (15, false))⟩,
    ⟨(some 20), .bin .gtr (.t 19) (.c (.int 100)), (some (15, false))⟩,
    ⟨(some 21), .pick (.t 15) (.c (.bool true)) (.t 20), none⟩,
    ⟨(some 22), .mov (.t 21), none⟩,
    ⟨(some 23), .faddr (some 1) 19 (.b 1), (some (22, false))⟩,
    ⟨(some 24), .faddr (some 1) 16 (.t 23), (some (22, false))⟩,
    ⟨(some 25), .load (some 1) 1 false (.t 24), (some (22, false))⟩,
    ⟨(some 26), .len (.t 25), (some (22, false))⟩,
    ⟨(some 27), .bin .gtr (.t 26) (.c (.int 100)), (some (22, false))⟩,
    ⟨(some 28), .pick (.t 22) (.c (.bool true)) (.t 27), none⟩]) <|
  .cond (.t 28) (.seq (.region 1 [⟨(some 2), .mov (.c (.bool false)), none⟩]) <|
  .ret) (.skip)) <|
  .seq (.seq (.region 1 [⟨(some 3), .mov (.c (.int 0)), none⟩]) <|
  .block 0 (.loop c74l0)) <|
  .seq (.seq (.region 1 [⟨(some 4), .mov (.c (.int 0)), none⟩]) <|
  .block 2 (.loop c74l1)) <|
  .seq (.region 1 [⟨(some 2), .mov (.c (.bool true)), none⟩]) <|
  .ret
def ir74 : IFn := ⟨53, [1], 1, [.tmp 2], c74⟩
theorem ok74 : compFn prog [1] [] f74 = some ir74 := by kernel_rfl
theorem wp74 {a0 : AV} {r : AV} (H : ∀ σ, WpI prog c74 (retQ [.tmp 2] fun v s => v = r ∧ s = σ) (argE [a0]) 0 σ) : Pure prog 74 [a0] r := @pure_of_wp prog hm 74 f74 [1] [] ir74 [a0] r func74 ok74 (Nat.le_of_ble_eq_true rfl) H
theorem wa74 {a0 : AV} {σ : Heap} {R : AV → Heap → Prop} (H : WpI prog c74 (retQ [.tmp 2] R) (argE [a0]) 0 σ) : CallsA prog 74 [a0] σ R := @callsA_of_wp prog [1] hm 74 f74 [] ir74 [a0] σ R func74 ok74 (Nat.le_of_ble_eq_true rfl) H


theorem k_r11_Short (o : Opn) (hl : o.Path.length ≤ 9223372036854775807) : Pure prog 95 [encOpn o] (.bool (opShort o)) := by
  refine wp95 fun σ => ?_
  unfold c95
  try simp -dsimp (disch := first | omega | assumption) only [↓PB, ↓reduceIte, QB, QC, QD, QE, Nat.reduceAdd, Nat.reduceMul, Nat.reduceEqDiff, Nat.reduceLT, Nat.reduceLeDiff, reduceCtorEq]
  refine CallG.pure (k_r10_Short _ hl) ?_
  try simp -dsimp (disch := first | omega | assumption) only [↓PB, ↓reduceIte, QB, QC, QD, QE, Nat.reduceAdd, Nat.reduceMul, Nat.reduceEqDiff, Nat.reduceLT, Nat.reduceLeDiff, reduceCtorEq]
  rw [GuardK_bool]
  refine ⟨fun h1 => ?_, fun h1 => ?_⟩ <;> (try simp -dsimp (disch := first | omega | assumption) only [↓PB, ↓reduceIte, QB, QC, QD, QE, Nat.reduceAdd, Nat.reduceMul, Nat.reduceEqDiff, Nat.reduceLT, Nat.reduceLeDiff, reduceCtorEq, h1, slenA])
  · rw [GuardK_dec]
    refine ⟨fun h2 => ?_, fun h2 => ?_⟩ <;> (try simp -dsimp (disch := first | omega | assumption) only [↓PB, ↓reduceIte, QB, QC, QD, QE, Nat.reduceAdd, Nat.reduceMul, Nat.reduceEqDiff, Nat.reduceLT, Nat.reduceLeDiff, reduceCtorEq, h2])
    · exact RetG.same ⟨by simp [t4, opShort, *], rfl⟩
    · exact RetG.same ⟨by simp [t4, opShort, *], rfl⟩
  · exact RetG.same ⟨by simp [t4, opShort, *], rfl⟩

theorem k_r12_Short (t : Txn) (hl : t.Ops.length ≤ 9223372036854775807) (hp : ∀ o ∈ t.Ops, o.Path.length ≤ 9223372036854775807) : Pure prog 27 [encTxn t] (.bool (txnShort t)) := by
  refine wp27 fun σ => ?_
  unfold c27
  try simp -dsimp (disch := first | omega | assumption) only [↓PB, ↓reduceIte, QB, QC, QD, QE, Nat.reduceAdd, Nat.reduceMul, Nat.reduceEqDiff, Nat.reduceLT, Nat.reduceLeDiff, reduceCtorEq]
  rw [CondK_dec]
  refine ⟨fun h0 => ?_, fun h0 => ?_⟩ <;> (try simp -dsimp (disch := first | omega | assumption) only [↓PB, ↓reduceIte, QB, QC, QD, QE, Nat.reduceAdd, Nat.reduceMul, Nat.reduceEqDiff, Nat.reduceLT, Nat.reduceLeDiff, reduceCtorEq, h0])
  · exact RetG.same ⟨by simp [t4, txnShort]; omega, rfl⟩
  refine loop_up t.Ops.length (fun i e s => e 1 = .box 0 (encTxn t) ∧ e 3 = .int i ∧ s = σ ∧ t.Ops.all opShort = (t.Ops.drop i).all opShort) 0 (Nat.zero_le _) ?_ ?_
  · exact ⟨by (try simp -dsimp (disch := first | omega | assumption) only [↓PB, ↓reduceIte, QB, QC, QD, QE, Nat.reduceAdd, Nat.reduceMul, Nat.reduceEqDiff, Nat.reduceLT, Nat.reduceLeDiff, reduceCtorEq]), by (try simp -dsimp (disch := first | omega | assumption) only [↓PB, ↓reduceIte, QB, QC, QD, QE, Nat.reduceAdd, Nat.reduceMul, Nat.reduceEqDiff, Nat.reduceLT, Nat.reduceLeDiff, reduceCtorEq]) <;> rfl, rfl, by simp⟩
  · rintro i e n s hi ⟨h1, h3, rfl, hg⟩
    unfold c27l0
    try simp -dsimp (disch := first | omega | assumption) only [↓PB, ↓reduceIte, QB, QC, QD, QE, Nat.reduceAdd, Nat.reduceMul, Nat.reduceEqDiff, Nat.reduceLT, Nat.reduceLeDiff, reduceCtorEq, h1, h3]
    rw [CondK_dec]
    refine ⟨fun h => ?_, fun h => ?_⟩ <;> (try simp -dsimp (disch := first | omega | assumption) only [↓PB, ↓reduceIte, QB, QC, QD, QE, Nat.reduceAdd, Nat.reduceMul, Nat.reduceEqDiff, Nat.reduceLT, Nat.reduceLeDiff, reduceCtorEq, h, h1, h3])
    · have hlt : i < t.Ops.length := by omega
      have hx : t.Ops[i]? = some t.Ops[i] := List.getElem?_eq_getElem hlt
      rw [List.drop_eq_getElem_cons hlt, List.all_cons] at hg
      try simp -dsimp (disch := first | omega | assumption) only [↓PB, ↓reduceIte, QB, QC, QD, QE, Nat.reduceAdd, Nat.reduceMul, Nat.reduceEqDiff, Nat.reduceLT, Nat.reduceLeDiff, reduceCtorEq, h1, h3, hx]
      refine CallG.pure (k_r11_Short _ (hp _ (List.getElem_mem _))) ?_
      try simp -dsimp (disch := first | omega | assumption) only [↓PB, ↓reduceIte, QB, QC, QD, QE, Nat.reduceAdd, Nat.reduceMul, Nat.reduceEqDiff, Nat.reduceLT, Nat.reduceLeDiff, reduceCtorEq, h1, h3, notA]
      rw [CondK_bool]
      refine ⟨fun h2 => ?_, fun h2 => ?_⟩ <;> (try simp -dsimp (disch := first | omega | assumption) only [↓PB, ↓reduceIte, QB, QC, QD, QE, Nat.reduceAdd, Nat.reduceMul, Nat.reduceEqDiff, Nat.reduceLT, Nat.reduceLeDiff, reduceCtorEq, h2, h1, h3])
      · exact ⟨hlt, by simp, by rw [hg, h2, Bool.true_and]⟩
      · exact RetG.same ⟨by simp [t4, txnShort, hg, h2], rfl⟩
    · refine RetG.same ⟨?_, rfl⟩
      rw [txnShort, hg, List.drop_eq_nil_of_le (by omega), decide_eq_true (by omega)]
      rfl

theorem k_r22_Short (s : State) (hl : s.Txns.length ≤ 9223372036854775807) (hp : ∀ t ∈ s.Txns, okTxn t) : Pure prog 74 [encState s] (.bool (stateShort s)) := by
  refine wp74 fun σ => ?_
  unfold c74
  try simp -dsimp (disch := first | omega | assumption) only [↓PB, ↓reduceIte, QB, QC, QD, QE, Nat.reduceAdd, Nat.reduceMul, Nat.reduceEqDiff, Nat.reduceLT, Nat.reduceLeDiff, reduceCtorEq]
  rw [GuardK_dec]
  refine ⟨fun h1 => ?_, fun h1 => ?_⟩ <;> (try simp -dsimp (disch := first | omega | assumption) only [↓PB, ↓reduceIte, QB, QC, QD, QE, Nat.reduceAdd, Nat.reduceMul, Nat.reduceEqDiff, Nat.reduceLT, Nat.reduceLeDiff, reduceCtorEq, h1])
  · exact RetG.same ⟨by simp [t4, stateShort]; omega, rfl⟩
  rw [GuardK_dec]
  refine ⟨fun h2 => ?_, fun h2 => ?_⟩ <;> (try simp -dsimp (disch := first | omega | assumption) only [↓PB, ↓reduceIte, QB, QC, QD, QE, Nat.reduceAdd, Nat.reduceMul, Nat.reduceEqDiff, Nat.reduceLT, Nat.reduceLeDiff, reduceCtorEq, h2, h1])
  · exact RetG.same ⟨by simp [t4, stateShort]; omega, rfl⟩
  rw [GuardK_dec]
  refine ⟨fun h3 => ?_, fun h3 => ?_⟩ <;> (try simp -dsimp (disch := first | omega | assumption) only [↓PB, ↓reduceIte, QB, QC, QD, QE, Nat.reduceAdd, Nat.reduceMul, Nat.reduceEqDiff, Nat.reduceLT, Nat.reduceLeDiff, reduceCtorEq, h3, h1, h2])
  · exact RetG.same ⟨by simp [t4, stateShort]; omega, rfl⟩
  rw [CondK_dec]
  refine ⟨fun h4 => ?_, fun h4 => ?_⟩ <;> (try simp -dsimp (disch := first | omega | assumption) only [↓PB, ↓reduceIte, QB, QC, QD, QE, Nat.reduceAdd, Nat.reduceMul, Nat.reduceEqDiff, Nat.reduceLT, Nat.reduceLeDiff, reduceCtorEq, h4, h1, h2, h3])
  · exact RetG.same ⟨by simp [t4, stateShort]; omega, rfl⟩
  refine loop_up s.Txns.length (fun i e w => e 1 = .box 0 (encState s) ∧ e 3 = .int i ∧ w = σ ∧ s.Txns.all txnShort = (s.Txns.drop i).all txnShort) 0 (Nat.zero_le _) ?_ ?_
  · exact ⟨by (try simp -dsimp (disch := first | omega | assumption) only [↓PB, ↓reduceIte, QB, QC, QD, QE, Nat.reduceAdd, Nat.reduceMul, Nat.reduceEqDiff, Nat.reduceLT, Nat.reduceLeDiff, reduceCtorEq]), by (try simp -dsimp (disch := first | omega | assumption) only [↓PB, ↓reduceIte, QB, QC, QD, QE, Nat.reduceAdd, Nat.reduceMul, Nat.reduceEqDiff, Nat.reduceLT, Nat.reduceLeDiff, reduceCtorEq]) <;> rfl, rfl, by simp⟩
  · rintro i e n w hi ⟨h5, h6, rfl, hg⟩
    unfold c74l0
    try simp -dsimp (disch := first | omega | assumption) only [↓PB, ↓reduceIte, QB, QC, QD, QE, Nat.reduceAdd, Nat.reduceMul, Nat.reduceEqDiff, Nat.reduceLT, Nat.reduceLeDiff, reduceCtorEq, h5, h6]
    rw [CondK_dec]
    refine ⟨fun h => ?_, fun h => ?_⟩ <;> (try simp -dsimp (disch := first | omega | assumption) only [↓PB, ↓reduceIte, QB, QC, QD, QE, Nat.reduceAdd, Nat.reduceMul, Nat.reduceEqDiff, Nat.reduceLT, Nat.reduceLeDiff, reduceCtorEq, h, h5, h6])
    · have hx : s.Txns[i]? = some s.Txns[i] := List.getElem?_eq_getElem h
      rw [List.drop_eq_getElem_cons h, List.all_cons] at hg
      try simp -dsimp (disch := first | omega | assumption) only [↓PB, ↓reduceIte, QB, QC, QD, QE, Nat.reduceAdd, Nat.reduceMul, Nat.reduceEqDiff, Nat.reduceLT, Nat.reduceLeDiff, reduceCtorEq, h5, h6, hx]
      refine CallG.pure (k_r12_Short _ (hp _ (List.getElem_mem _)).1 (hp _ (List.getElem_mem _)).2) ?_
      try simp -dsimp (disch := first | omega | assumption) only [↓PB, ↓reduceIte, QB, QC, QD, QE, Nat.reduceAdd, Nat.reduceMul, Nat.reduceEqDiff, Nat.reduceLT, Nat.reduceLeDiff, reduceCtorEq, h5, h6, notA]
      rw [CondK_bool]
      refine ⟨fun h7 => ?_, fun h7 => ?_⟩ <;> (try simp -dsimp (disch := first | omega | assumption) only [↓PB, ↓reduceIte, QB, QC, QD, QE, Nat.reduceAdd, Nat.reduceMul, Nat.reduceEqDiff, Nat.reduceLT, Nat.reduceLeDiff, reduceCtorEq, h7, h5, h6])
      · exact ⟨h, by simp, by rw [hg, h7, Bool.true_and]⟩
      · exact RetG.same ⟨by simp [t4, stateShort, hg, h7], rfl⟩
    · have ht : s.Txns.all txnShort = true := by rw [hg, List.drop_eq_nil_of_le (by omega)]; rfl
      refine loop_up 8 (fun i e w' => e 1 = .box 0 (encState s) ∧ e 4 = .int i ∧ w' = w ∧ ((List.range 8).all fun u => decide ((s.Redo.at u).length ≤ 40)) = ((List.range' i (8 - i)).all fun u => decide ((s.Redo.at u).length ≤ 40))) 0 (Nat.zero_le _) ?_ ?_
      · exact ⟨by (try simp -dsimp (disch := first | omega | assumption) only [↓PB, ↓reduceIte, QB, QC, QD, QE, Nat.reduceAdd, Nat.reduceMul, Nat.reduceEqDiff, Nat.reduceLT, Nat.reduceLeDiff, reduceCtorEq, h5]), by (try simp -dsimp (disch := first | omega | assumption) only [↓PB, ↓reduceIte, QB, QC, QD, QE, Nat.reduceAdd, Nat.reduceMul, Nat.reduceEqDiff, Nat.reduceLT, Nat.reduceLeDiff, reduceCtorEq]) <;> rfl, rfl, by rw [List.range_eq_range']⟩
      · rintro i e n w' hi ⟨h7, h8, rfl, hq⟩
        unfold c74l1
        try simp -dsimp (disch := first | omega | assumption) only [↓PB, ↓reduceIte, QB, QC, QD, QE, Nat.reduceAdd, Nat.reduceMul, Nat.reduceEqDiff, Nat.reduceLT, Nat.reduceLeDiff, reduceCtorEq, h7, h8]
        rw [CondK_dec]
        refine ⟨fun h9 => ?_, fun h9 => ?_⟩ <;> (try simp -dsimp (disch := first | omega | assumption) only [↓PB, ↓reduceIte, QB, QC, QD, QE, Nat.reduceAdd, Nat.reduceMul, Nat.reduceEqDiff, Nat.reduceLT, Nat.reduceLeDiff, reduceCtorEq, h9, h7, h8])
        · have hr : List.range' i (8 - i) = i :: List.range' (i + 1) (8 - (i + 1)) := by
            rw [show 8 - i = (8 - (i + 1)) + 1 by omega, List.range'_succ]
          rw [hr, List.all_cons] at hq
          rw [CondK_dec]
          refine ⟨fun ha => ?_, fun ha => ?_⟩ <;> (try simp -dsimp (disch := first | omega | assumption) only [↓PB, ↓reduceIte, QB, QC, QD, QE, Nat.reduceAdd, Nat.reduceMul, Nat.reduceEqDiff, Nat.reduceLT, Nat.reduceLeDiff, reduceCtorEq, ha, h7, h8])
          · exact RetG.same ⟨by simp [t4, stateShort, hq]; omega, rfl⟩
          · exact ⟨h9, by simp, by rw [hq, decide_eq_true (by omega), Bool.true_and]⟩
        · refine RetG.same ⟨?_, rfl⟩
          rw [show 8 - i = 0 by omega] at hq
          simp [t4, stateShort, hq, ht]; omega

end Go.Av

namespace Go.Av
open Go.Proofs.Tryz
set_option maxRecDepth 100000
set_option linter.unusedSimpArgs false
set_option linter.unusedVariables false

/- r05.Right -/
def c219l0 : ICode :=
  .seq (.seq (.region 2 [⟨(some 4), .mov (.t 3), none⟩,
    ⟨(some 5), .bin .lss (.t 4) (.c (.int 16)), none⟩]) <|
  .cond (.t 5) (.skip) (.exit 0)) <|
  .seq (.block 1 (.seq (.region 10 [⟨(some 8), .mov (.t 3), none⟩,
    ⟨(some 9), .iaddrA (some 1) 16 1 (.b 1) (.t 8), none⟩,
    ⟨(some 10), .load (some 1) 1 false (.t 9), none⟩,
    ⟨(some 11), .bin .lss (.t 10) (.c (.int 0)), none⟩,
    ⟨(some 12), .mov (.t 11), none⟩,
    ⟨(some 13), .mov (.t 3), (some (12, false))⟩,
    ⟨(some 14), .iaddrA (some 1) 16 1 (.b 1) (.t 13), (some (12, false))⟩,
    ⟨(some 15), .load (some 1) 1 false (.t 14), (some (12, false))⟩,
    ⟨(some 16), .bin .gtr (.t 15) (.c (.int 1048576)), (some (12, false))⟩,
    ⟨(some 17), .pick (.t 12) (.c (.bool true)) (.t 16), none⟩]) <|
  .cond (.t 17) (.seq (.region 1 [⟨(some 2), .mov (.c (.bool false)), none⟩]) <|
  .ret) (.skip))) <|
  .region 3 [⟨(some 6), .mov (.t 3), none⟩,
    ⟨(some 7), .bin .add (.t 6) (.c (.int 1)), none⟩,
    ⟨(some 3), .mov (.t 7), none⟩]
def c219 : ICode :=
  .seq (.region 2 [⟨(some 1), .bbox 0 (.t 0), none⟩,
    ⟨(some 2), .mov (.c (.bool false)), none⟩]) <|
  .seq (.seq (.region 1 [⟨(some 3), .mov (.c (.int 0)), none⟩]) <|
  .block 0 (.loop c219l0)) <|
  .seq (.region 1 [⟨(some 2), .mov (.c (.bool true)), none⟩]) <|
  .ret
def ir219 : IFn := ⟨18, [1], 1, [.tmp 2], c219⟩
theorem ok219 : compFn prog [1] [] f219 = some ir219 := by kernel_rfl
theorem wp219 {a0 : AV} {r : AV} (H : ∀ σ, WpI prog c219 (retQ [.tmp 2] fun v s => v = r ∧ s = σ) (argE [a0]) 0 σ) : Pure prog 219 [a0] r := @pure_of_wp prog hm 219 f219 [1] [] ir219 [a0] r func219 ok219 (Nat.le_of_ble_eq_true rfl) H
theorem wa219 {a0 : AV} {σ : Heap} {R : AV → Heap → Prop} (H : WpI prog c219 (retQ [.tmp 2] R) (argE [a0]) 0 σ) : CallsA prog 219 [a0] σ R := @callsA_of_wp prog [1] hm 219 f219 [] ir219 [a0] σ R func219 ok219 (Nat.le_of_ble_eq_true rfl) H
/- r05.Has -/
def c183 : ICode :=
  .seq (.region 3 [⟨(some 2), .bbox 0 (.t 0), none⟩,
    ⟨(some 3), .bbox 1 (.t 1), none⟩,
    ⟨(some 4), .mov (.c (.bool false)), none⟩]) <|
  .seq (.region 12 [⟨(some 5), .load (some 3) 2 true (.b 3), none⟩,
    ⟨(some 6), .call (.c (.clo 96 [])) [(.t 5)], none⟩,
    ⟨(some 7), .mov (.t 6), none⟩,
    ⟨(some 8), .faddr (some 3) 0 (.b 3), (some (7, true))⟩,
    ⟨(some 9), .load (some 3) 1 false (.t 8), (some (7, true))⟩,
    ⟨(some 10), .iaddrA (some 2) 16 1 (.b 2) (.t 9), (some (7, true))⟩,
    ⟨(some 11), .load (some 2) 1 false (.t 10), (some (7, true))⟩,
    ⟨(some 12), .faddr (some 3) 1 (.b 3), (some (7, true))⟩,
    ⟨(some 13), .load (some 3) 1 false (.t 12), (some (7, true))⟩,
    ⟨(some 14), .bin .geq (.t 11) (.t 13), (some (7, true))⟩,
    ⟨(some 15), .pick (.t 7) (.t 14) (.c (.bool false)), none⟩,
    ⟨(some 4), .mov (.t 15), none⟩]) <|
  .ret
def ir183 : IFn := ⟨16, [2, 3], 2, [.tmp 4], c183⟩
theorem ok183 : compFn prog [2, 3] [] f183 = some ir183 := by kernel_rfl
theorem wp183 {a0 a1 : AV} {r : AV} (H : ∀ σ, WpI prog c183 (retQ [.tmp 4] fun v s => v = r ∧ s = σ) (argE [a0, a1]) 0 σ) : Pure prog 183 [a0, a1] r := @pure_of_wp prog hm 183 f183 [2, 3] [] ir183 [a0, a1] r func183 ok183 (Nat.le_of_ble_eq_true rfl) H
theorem wa183 {a0 a1 : AV} {σ : Heap} {R : AV → Heap → Prop} (H : WpI prog c183 (retQ [.tmp 4] R) (argE [a0, a1]) 0 σ) : CallsA prog 183 [a0, a1] σ R := @callsA_of_wp prog [2, 3] hm 183 f183 [] ir183 [a0, a1] σ R func183 ok183 (Nat.le_of_ble_eq_true rfl) H
/- r06.Has -/
def c82l0 : ICode :=
  .seq (.seq (.region 5 [⟨(some 10), .mov (.t 5), none⟩,
    ⟨(some 11), .faddr (some 2) 16 (.b 2), none⟩,
    ⟨(some 12), .load (some 2) 1 false (.t 11), none⟩,
    ⟨(some 13), .len (.t 12), none⟩,
    ⟨(some 14), .bin .lss (.t 10) (.t 13), none⟩]) <|
  .cond (.t 14) (.skip) (.exit 0)) <|
  .seq (.block 1 (.seq (.region 7 [⟨(some 17), .faddr (some 2) 16 (.b 2), none⟩,
    ⟨(some 18), .load (some 2) 1 false (.t 17), none⟩,
    ⟨(some 19), .mov (.t 5), none⟩,
    ⟨(some 20), .iaddrS 2 (.t 18) (.t 19), none⟩,
    ⟨(some 21), .load none 2 true (.t 20), none⟩,
    ⟨(some 22), .load (some 3) 2 true (.b 3), none⟩,
    ⟨(some 23), .eql false [.int .i64, .int .i64] (.t 21) (.t 22), none⟩]) <|
  .cond (.t 23) (.seq (.region 1 [⟨(some 4), .mov (.c (.bool true)), none⟩]) <|
  .ret) (.skip))) <|
  .region 3 [⟨(some 15), .mov (.t 5), none⟩,
    ⟨(some 16), .bin .add (.t 15) (.c (.int 1)), none⟩,
    ⟨(some 5), .mov (.t 16), none⟩]
def c82 : ICode :=
  .seq (.region 3 [⟨(some 2), .bbox 0 (.t 0), none⟩,
    ⟨(some 3), .bbox 1 (.t 1), none⟩,
    ⟨(some 4), .mov (.c (.bool false)), none⟩]) <|
  .seq (.seq (.region 4 [⟨(some 6), .faddr (some 2) 0 (.b 2), none⟩,
    ⟨(some 7), .load (some 2) 16 true (.t 6), none⟩,
    ⟨(some 8), .load (some 3) 2 true (.b 3), none⟩,
    ⟨(some 9), .call (.c (.clo 183 [])) [(.t 7), (.t 8)], none⟩]) <|
  .cond (.t 9) (.seq (.region 1 [⟨(some 4), .mov (.c (.bool true)), none⟩]) <|
  .ret) (.skip)) <|
  .seq (.seq (.region 1 [⟨(some 5), .mov (.c (.int 0)), none⟩]) <|
  .block 0 (.loop c82l0)) <|
  .seq (.region 1 [⟨(some 4), .mov (.c (.bool false)), none⟩]) <|
  .ret
def ir82 : IFn := ⟨24, [2, 3], 2, [.tmp 4], c82⟩
theorem ok82 : compFn prog [2, 3] [] f82 = some ir82 := by kernel_rfl
theorem wp82 {a0 a1 : AV} {r : AV} (H : ∀ σ, WpI prog c82 (retQ [.tmp 4] fun v s => v = r ∧ s = σ) (argE [a0, a1]) 0 σ) : Pure prog 82 [a0, a1] r := @pure_of_wp prog hm 82 f82 [2, 3] [] ir82 [a0, a1] r func82 ok82 (Nat.le_of_ble_eq_true rfl) H
theorem wa82 {a0 a1 : AV} {σ : Heap} {R : AV → Heap → Prop} (H : WpI prog c82 (retQ [.tmp 4] R) (argE [a0, a1]) 0 σ) : CallsA prog 82 [a0, a1] σ R := @callsA_of_wp prog [2, 3] hm 82 f82 [] ir82 [a0, a1] σ R func82 ok82 (Nat.le_of_ble_eq_true rfl) H
/- r08.one -/
def c192 : ICode :=
  .seq (.region 2 [⟨(some 1), .bbox 0 (.t 0), none⟩,
    ⟨(some 2), .mov (.c (.bool false)), none⟩]) <|
  .seq (.region 14 [⟨(some 3), .faddr (some 1) 0 (.b 1), none⟩,
    ⟨(some 4), .load (some 1) 2 true (.t 3), none⟩,
    ⟨(some 5), .call (.c (.clo 96 [])) [(.t 4)], none⟩,
    ⟨(some 6), .mov (.t 5), none⟩,
    ⟨(some 7), .faddr (some 1) 2 (.b 1), (some (6, true))⟩,
    ⟨(some 8), .load (some 1) 1 false (.t 7), (some (6, true))⟩,
    ⟨(some 9), .bin .geq (.t 8) (.c (.int 1)), (some (6, true))⟩,
    ⟨(some 10), .pick (.t 6) (.t 9) (.c (.bool false)), none⟩,
    ⟨(some 11), .mov (.t 10), none⟩,
    ⟨(some 12), .faddr (some 1) 2 (.b 1), (some (11, true))⟩,
    ⟨(some 13), .load (some 1) 1 false (.t 12), (some (11, true))⟩,
    ⟨(some 14), .bin .leq (.t 13) (.c (.int 64)), (some (11, true))⟩,
    ⟨(some 15), .pick (.t 11) (.t 14) (.c (.bool false)), none⟩,
    ⟨(some 2), .mov (.t 15), none⟩]) <|
  .ret
def ir192 : IFn := ⟨16, [1], 1, [.tmp 2], c192⟩
theorem ok192 : compFn prog [1] [] f192 = some ir192 := by kernel_rfl
theorem wp192 {a0 : AV} {r : AV} (H : ∀ σ, WpI prog c192 (retQ [.tmp 2] fun v s => v = r ∧ s = σ) (argE [a0]) 0 σ) : Pure prog 192 [a0] r := @pure_of_wp prog hm 192 f192 [1] [] ir192 [a0] r func192 ok192 (Nat.le_of_ble_eq_true rfl) H
theorem wa192 {a0 : AV} {σ : Heap} {R : AV → Heap → Prop} (H : WpI prog c192 (retQ [.tmp 2] R) (argE [a0]) 0 σ) : CallsA prog 192 [a0] σ R := @callsA_of_wp prog [1] hm 192 f192 [] ir192 [a0] σ R func192 ok192 (Nat.le_of_ble_eq_true rfl) H
/- r12.Rises -/
def c118l0 : ICode :=
  .seq (.seq (.region 4 [⟨(some 4), .mov (.t 3), none⟩,
    ⟨(some 5), .mov (.t 0), none⟩,
    ⟨(some 6), .len (.t 5), none⟩,
    ⟨(some 7), .bin .lss (.t 4) (.t 6), none⟩]) <|
  .cond (.t 7) (.skip) (.exit 0)) <|
  .seq (.block 1 (.seq (.region 13 [⟨(some 10), .mov (.t 0), none⟩,
    ⟨(some 11), .mov (.t 3), none⟩,
    ⟨(some 12), .bin .sub (.t 11) (.c (.int 1)), none⟩,
    ⟨(some 13), .iaddrS 6 (.t 10) (.t 12), none⟩,
    ⟨(some 14), .faddr none 0 (.t 13), none⟩,
    ⟨(some 15), .load none 2 true (.t 14), none⟩,
    ⟨(some 16), .mov (.t 0), none⟩,
    ⟨(some 17), .mov (.t 3), none⟩,
    ⟨(some 18), .iaddrS 6 (.t 16) (.t 17), none⟩,
    ⟨(some 19), .faddr none 0 (.t 18), none⟩,
    ⟨(some 20), .load none 2 true (.t 19), none⟩,
    ⟨(some 21), .call (.c (.clo 182 [])) [(.t 15), (.t 20)], none⟩,
    ⟨(some 22), .bin .neq (.t 21) (.c (.int (-1))), none⟩]) <|
  .cond (.t 22) (.seq (.region 1 [⟨(some 2), .mov (.c (.bool false)), none⟩]) <|
  .ret) (.skip))) <|
  .region 3 [⟨(some 8), .mov (.t 3), none⟩,
    ⟨(some 9), .bin .add (.t 8) (.c (.int 1)), none⟩,
    ⟨(some 3), .mov (.t 9), none⟩]
def c118 : ICode :=
  .seq (.region 1 [⟨(some 2), .mov (.c (.bool false)), none⟩]) <|
  .seq (.seq (.region 1 [⟨(some 3), .mov (.c (.int 1)), none⟩]) <|
  .block 0 (.loop c118l0)) <|
  .seq (.region 1 [⟨(some 2), .mov (.c (.bool true)), none⟩]) <|
  .ret
def ir118 : IFn := ⟨23, [], 1, [.tmp 2], c118⟩
theorem ok118 : compFn prog [] [] f118 = some ir118 := by kernel_rfl
theorem wp118 {a0 : AV} {r : AV} (H : ∀ σ, WpI prog c118 (retQ [.tmp 2] fun v s => v = r ∧ s = σ) (argE [a0]) 0 σ) : Pure prog 118 [a0] r := @pure_of_wp prog hm 118 f118 [] [] ir118 [a0] r func118 ok118 (Nat.le_of_ble_eq_true rfl) H
theorem wa118 {a0 : AV} {σ : Heap} {R : AV → Heap → Prop} (H : WpI prog c118 (retQ [.tmp 2] R) (argE [a0]) 0 σ) : CallsA prog 118 [a0] σ R := @callsA_of_wp prog [] hm 118 f118 [] ir118 [a0] σ R func118 ok118 (Nat.le_of_ble_eq_true rfl) H


theorem k_r05_Right (v : Vec) : Pure prog 219 [encVec v] (.bool (vecRight v)) := by
  refine wp219 fun σ => ?_
  unfold c219
  try simp -dsimp (disch := first | omega | assumption) only [↓PB, ↓reduceIte, QB, QC, QD, QE, Nat.reduceAdd, Nat.reduceMul, Nat.reduceEqDiff, Nat.reduceLT, Nat.reduceLeDiff, reduceCtorEq]
  refine loop_up 16 (fun i e w => e 1 = .box 0 (encVec v) ∧ e 3 = .int i ∧ w = σ ∧ vecRight v = ((List.range' i (16 - i)).all fun i => decide (0 ≤ v.at i ∧ v.at i ≤ 1048576))) 0 (Nat.zero_le _) ?_ ?_
  · exact ⟨by (try simp -dsimp (disch := first | omega | assumption) only [↓PB, ↓reduceIte, QB, QC, QD, QE, Nat.reduceAdd, Nat.reduceMul, Nat.reduceEqDiff, Nat.reduceLT, Nat.reduceLeDiff, reduceCtorEq]), by (try simp -dsimp (disch := first | omega | assumption) only [↓PB, ↓reduceIte, QB, QC, QD, QE, Nat.reduceAdd, Nat.reduceMul, Nat.reduceEqDiff, Nat.reduceLT, Nat.reduceLeDiff, reduceCtorEq]) <;> rfl, rfl, by rw [vecRight, List.range_eq_range']⟩
  · rintro i e n w hi ⟨h1, h3, rfl, hg⟩
    unfold c219l0
    try simp -dsimp (disch := first | omega | assumption) only [↓PB, ↓reduceIte, QB, QC, QD, QE, Nat.reduceAdd, Nat.reduceMul, Nat.reduceEqDiff, Nat.reduceLT, Nat.reduceLeDiff, reduceCtorEq, h1, h3]
    rw [CondK_dec]
    refine ⟨fun h => ?_, fun h => ?_⟩ <;> (try simp -dsimp (disch := first | omega | assumption) only [↓PB, ↓reduceIte, QB, QC, QD, QE, Nat.reduceAdd, Nat.reduceMul, Nat.reduceEqDiff, Nat.reduceLT, Nat.reduceLeDiff, reduceCtorEq, h, h1, h3])
    · rw [range_step h, List.all_cons] at hg
      rw [GuardK_dec]
      refine ⟨fun h4 => ?_, fun h4 => ?_⟩ <;> (try simp -dsimp (disch := first | omega | assumption) only [↓PB, ↓reduceIte, QB, QC, QD, QE, Nat.reduceAdd, Nat.reduceMul, Nat.reduceEqDiff, Nat.reduceLT, Nat.reduceLeDiff, reduceCtorEq, h4, h1, h3, h])
      · exact RetG.same ⟨by rw [t4, hg, decide_eq_false (by omega)]; rfl, rfl⟩
      · rw [CondK_dec]
        refine ⟨fun h5 => ?_, fun h5 => ?_⟩ <;> (try simp -dsimp (disch := first | omega | assumption) only [↓PB, ↓reduceIte, QB, QC, QD, QE, Nat.reduceAdd, Nat.reduceMul, Nat.reduceEqDiff, Nat.reduceLT, Nat.reduceLeDiff, reduceCtorEq, h5, h1, h3])
        · exact RetG.same ⟨by rw [t4, hg, decide_eq_false (by omega)]; rfl, rfl⟩
        · exact ⟨h, by simp, by rw [hg, decide_eq_true (by omega), Bool.true_and]⟩
    · refine RetG.same ⟨?_, rfl⟩
      rw [show 16 - i = 0 by omega] at hg
      rw [t4, hg]; rfl

theorem k_r05_Has (v : Vec) (d : Dot) : Pure prog 183 [encVec v, encDot d] (.bool (vecHas v d)) := by
  refine wp183 fun σ => ?_
  unfold c183
  try simp -dsimp (disch := first | omega | assumption) only [↓PB, ↓reduceIte, QB, QC, QD, QE, Nat.reduceAdd, Nat.reduceMul, Nat.reduceEqDiff, Nat.reduceLT, Nat.reduceLeDiff, reduceCtorEq]
  refine CallG.pure (k_r04_Right _) ?_
  try simp -dsimp (disch := first | omega | assumption) only [↓PB, ↓reduceIte, QB, QC, QD, QE, Nat.reduceAdd, Nat.reduceMul, Nat.reduceEqDiff, Nat.reduceLT, Nat.reduceLeDiff, reduceCtorEq]
  rw [GuardK_bool]
  refine ⟨fun h => ?_, fun h => ?_⟩ <;> (try simp -dsimp (disch := first | omega | assumption) only [↓PB, ↓reduceIte, QB, QC, QD, QE, Nat.reduceAdd, Nat.reduceMul, Nat.reduceEqDiff, Nat.reduceLT, Nat.reduceLeDiff, reduceCtorEq, h])
  · have h' := h
    simp only [dotRight, decide_eq_true_eq] at h'
    try simp -dsimp (disch := first | omega | assumption) only [↓PB, ↓reduceIte, QB, QC, QD, QE, Nat.reduceAdd, Nat.reduceMul, Nat.reduceEqDiff, Nat.reduceLT, Nat.reduceLeDiff, reduceCtorEq, h]
    exact RetG.same ⟨by rw [t4, vecHas, h]; simp, rfl⟩
  · exact RetG.same ⟨by rw [t4, vecHas, h]; rfl, rfl⟩

theorem k_r06_Has (s : Dots) (d : Dot) (hl : s.More.length ≤ 9223372036854775807) : Pure prog 82 [encDots s, encDot d] (.bool (dotsHas s d)) := by
  refine wp82 fun σ => ?_
  unfold c82
  try simp -dsimp (disch := first | omega | assumption) only [↓PB, ↓reduceIte, QB, QC, QD, QE, Nat.reduceAdd, Nat.reduceMul, Nat.reduceEqDiff, Nat.reduceLT, Nat.reduceLeDiff, reduceCtorEq]
  refine CallG.pure (k_r05_Has _ _) ?_
  try simp -dsimp (disch := first | omega | assumption) only [↓PB, ↓reduceIte, QB, QC, QD, QE, Nat.reduceAdd, Nat.reduceMul, Nat.reduceEqDiff, Nat.reduceLT, Nat.reduceLeDiff, reduceCtorEq]
  rw [CondK_bool]
  refine ⟨fun h => ?_, fun h => ?_⟩ <;> (try simp -dsimp (disch := first | omega | assumption) only [↓PB, ↓reduceIte, QB, QC, QD, QE, Nat.reduceAdd, Nat.reduceMul, Nat.reduceEqDiff, Nat.reduceLT, Nat.reduceLeDiff, reduceCtorEq, h])
  · exact RetG.same ⟨by simp [t4, dotsHas, h], rfl⟩
  refine loop_up s.More.length (fun i e w => e 2 = .box 0 (encDots s) ∧ e 3 = .box 1 (encDot d) ∧ e 5 = .int i ∧ w = σ ∧ decide (d ∈ s.More) = decide (d ∈ s.More.drop i)) 0 (Nat.zero_le _) ?_ ?_
  · exact ⟨by (try simp -dsimp (disch := first | omega | assumption) only [↓PB, ↓reduceIte, QB, QC, QD, QE, Nat.reduceAdd, Nat.reduceMul, Nat.reduceEqDiff, Nat.reduceLT, Nat.reduceLeDiff, reduceCtorEq]), by (try simp -dsimp (disch := first | omega | assumption) only [↓PB, ↓reduceIte, QB, QC, QD, QE, Nat.reduceAdd, Nat.reduceMul, Nat.reduceEqDiff, Nat.reduceLT, Nat.reduceLeDiff, reduceCtorEq]), by (try simp -dsimp (disch := first | omega | assumption) only [↓PB, ↓reduceIte, QB, QC, QD, QE, Nat.reduceAdd, Nat.reduceMul, Nat.reduceEqDiff, Nat.reduceLT, Nat.reduceLeDiff, reduceCtorEq]) <;> rfl, rfl, by simp⟩
  · rintro i e n w hi ⟨h2, h3, h5, rfl, hg⟩
    unfold c82l0
    try simp -dsimp (disch := first | omega | assumption) only [↓PB, ↓reduceIte, QB, QC, QD, QE, Nat.reduceAdd, Nat.reduceMul, Nat.reduceEqDiff, Nat.reduceLT, Nat.reduceLeDiff, reduceCtorEq, h2, h3, h5]
    rw [CondK_dec]
    refine ⟨fun h4 => ?_, fun h4 => ?_⟩ <;> (try simp -dsimp (disch := first | omega | assumption) only [↓PB, ↓reduceIte, QB, QC, QD, QE, Nat.reduceAdd, Nat.reduceMul, Nat.reduceEqDiff, Nat.reduceLT, Nat.reduceLeDiff, reduceCtorEq, h4, h2, h3, h5])
    · have hx : s.More[i]? = some s.More[i] := List.getElem?_eq_getElem h4
      rw [List.drop_eq_getElem_cons h4] at hg
      try simp -dsimp (disch := first | omega | assumption) only [↓PB, ↓reduceIte, QB, QC, QD, QE, Nat.reduceAdd, Nat.reduceMul, Nat.reduceEqDiff, Nat.reduceLT, Nat.reduceLeDiff, reduceCtorEq, h2, h3, h5, hx]
      rw [CondK_dec]
      refine ⟨fun h6 => ?_, fun h6 => ?_⟩ <;> (try simp -dsimp (disch := first | omega | assumption) only [↓PB, ↓reduceIte, QB, QC, QD, QE, Nat.reduceAdd, Nat.reduceMul, Nat.reduceEqDiff, Nat.reduceLT, Nat.reduceLeDiff, reduceCtorEq, h6, h2, h3, h5])
      · exact RetG.same ⟨by rw [t4, dotsHas, hg, h6]; simp, rfl⟩
      · exact ⟨h4, by simp, by rw [hg, decide_eq_decide, List.mem_cons]; exact ⟨fun h => h.resolve_left (Ne.symm h6), .inr⟩⟩
    · refine RetG.same ⟨?_, rfl⟩
      rw [t4, dotsHas, hg, List.drop_eq_nil_of_le (by omega), h]; rfl

theorem k_r08_one (u : Undo) : Pure prog 192 [encUndo u] (.bool (undoOne u)) := by
  refine wp192 fun σ => ?_
  unfold c192
  try simp -dsimp (disch := first | omega | assumption) only [↓PB, ↓reduceIte, QB, QC, QD, QE, Nat.reduceAdd, Nat.reduceMul, Nat.reduceEqDiff, Nat.reduceLT, Nat.reduceLeDiff, reduceCtorEq]
  refine CallG.pure (k_r04_Right _) ?_
  try simp -dsimp (disch := first | omega | assumption) only [↓PB, ↓reduceIte, QB, QC, QD, QE, Nat.reduceAdd, Nat.reduceMul, Nat.reduceEqDiff, Nat.reduceLT, Nat.reduceLeDiff, reduceCtorEq]
  rw [GuardK_bool]
  refine ⟨fun h => ?_, fun h => ?_⟩ <;> (try simp -dsimp (disch := first | omega | assumption) only [↓PB, ↓reduceIte, QB, QC, QD, QE, Nat.reduceAdd, Nat.reduceMul, Nat.reduceEqDiff, Nat.reduceLT, Nat.reduceLeDiff, reduceCtorEq, h])
  · rw [GuardK_dec]
    refine ⟨fun h2 => ?_, fun h2 => ?_⟩ <;> (try simp -dsimp (disch := first | omega | assumption) only [↓PB, ↓reduceIte, QB, QC, QD, QE, Nat.reduceAdd, Nat.reduceMul, Nat.reduceEqDiff, Nat.reduceLT, Nat.reduceLeDiff, reduceCtorEq, h2, h])
    · exact RetG.same ⟨by simp [t4, undoOne, h] <;> omega, rfl⟩
    · exact RetG.same ⟨by simp [t4, undoOne, h] <;> omega, rfl⟩
  · exact RetG.same ⟨by simp [t4, undoOne, h], rfl⟩

theorem k_r12_Rises (l : List Txn) (hl : l.length ≤ 9223372036854775807) : Pure prog 118 [encL 6 encTxn l] (.bool (txnsRise l)) := by
  refine wp118 fun σ => ?_
  unfold c118
  try simp -dsimp (disch := first | omega | assumption) only [↓PB, ↓reduceIte, QB, QC, QD, QE, Nat.reduceAdd, Nat.reduceMul, Nat.reduceEqDiff, Nat.reduceLT, Nat.reduceLeDiff, reduceCtorEq]
  refine loop_rule (fun k e w => ∃ i : Nat, k = l.length - i ∧ e 0 = encL 6 encTxn l ∧ e 3 = .int (i + 1 : Nat) ∧ w = σ ∧ txnsRise l = nbr (fun a b => decide (cmpDot a.D b.D = -1)) (l.drop i)) ⟨_, 0, rfl, ?_⟩ ?_
  · exact ⟨by (try simp -dsimp (disch := first | omega | assumption) only [↓PB, ↓reduceIte, QB, QC, QD, QE, Nat.reduceAdd, Nat.reduceMul, Nat.reduceEqDiff, Nat.reduceLT, Nat.reduceLeDiff, reduceCtorEq]), by (try simp -dsimp (disch := first | omega | assumption) only [↓PB, ↓reduceIte, QB, QC, QD, QE, Nat.reduceAdd, Nat.reduceMul, Nat.reduceEqDiff, Nat.reduceLT, Nat.reduceLeDiff, reduceCtorEq]) <;> rfl, rfl, by rfl⟩
  · rintro k e n w ⟨i, rfl, h0, h3, rfl, hg⟩
    unfold c118l0
    try simp -dsimp (disch := first | omega | assumption) only [↓PB, ↓reduceIte, QB, QC, QD, QE, Nat.reduceAdd, Nat.reduceMul, Nat.reduceEqDiff, Nat.reduceLT, Nat.reduceLeDiff, reduceCtorEq, h0, h3]
    rw [CondK_dec]
    refine ⟨fun h => ?_, fun h => ?_⟩ <;> (try simp -dsimp (disch := first | omega | assumption) only [↓PB, ↓reduceIte, QB, QC, QD, QE, Nat.reduceAdd, Nat.reduceMul, Nat.reduceEqDiff, Nat.reduceLT, Nat.reduceLeDiff, reduceCtorEq, h, h0, h3])
    · have hx : l[i + 1]? = some l[i + 1] := List.getElem?_eq_getElem h
      have hy : l[i]? = some l[i] := List.getElem?_eq_getElem (by omega)
      have hw : ((i + 1 : Nat) : Int) - 1 = (i : Int) := by omega
      rw [nbr_drop h] at hg
      try simp -dsimp (disch := first | omega | assumption) only [↓PB, ↓reduceIte, QB, QC, QD, QE, Nat.reduceAdd, Nat.reduceMul, Nat.reduceEqDiff, Nat.reduceLT, Nat.reduceLeDiff, reduceCtorEq, h0, h3, hx, hy, hw]
      refine CallG.pure (k_r04_Compare _ _) ?_
      try simp -dsimp (disch := first | omega | assumption) only [↓PB, ↓reduceIte, QB, QC, QD, QE, Nat.reduceAdd, Nat.reduceMul, Nat.reduceEqDiff, Nat.reduceLT, Nat.reduceLeDiff, reduceCtorEq, h0, h3]
      rw [CondK_dec]
      refine ⟨fun h4 => ?_, fun h4 => ?_⟩ <;> (try simp -dsimp (disch := first | omega | assumption) only [↓PB, ↓reduceIte, QB, QC, QD, QE, Nat.reduceAdd, Nat.reduceMul, Nat.reduceEqDiff, Nat.reduceLT, Nat.reduceLeDiff, reduceCtorEq, h4, h0, h3])
      · exact ⟨l.length - (i + 1), by omega, i + 1, rfl, by simp, by rw [hg]; simp [h4]⟩
      · exact RetG.same ⟨by simp [t4, hg, h4], rfl⟩
    · refine RetG.same ⟨?_, rfl⟩
      rw [t4, hg, nbr_end (by omega)]

end Go.Av

namespace Go.Av
open Go.Proofs.Tryz
set_option maxRecDepth 100000
set_option linter.unusedSimpArgs false
set_option linter.unusedVariables false

/- r11.Gone -/
def c80 : ICode :=
  .seq (.region 2 [⟨(some 1), .bbox 0 (.t 0), none⟩,
    ⟨(some 2), .mov (.c (.bool false)), none⟩]) <|
  .seq (.region 3 [⟨(some 4), .build (.agg [(.int 0), (.int 0), (.str ⟨#[]⟩)]) [], none⟩,
    ⟨(some 3), .nbox 1 (.agg [(.int 0), (.int 0), (.str ⟨#[]⟩)]), none⟩,
    ⟨none, .store (some 3) 3 (.b 3) (.t 4), none⟩]) <|
  .seq (.region 27 [⟨(some 5), .faddr (some 1) 0 (.b 1), none⟩,
    ⟨(some 6), .load (some 1) 1 false (.t 5), none⟩,
    ⟨(some 7), .bin .eql (.t 6) (.c (.int 0)), none⟩,
    ⟨(some 8), .mov (.t 7), none⟩,
    ⟨(some 9), .faddr (some 1) 1 (.b 1), (some (8, true))⟩,
    ⟨(some 10), .load (some 1) 1 false (.t 9), (some (8, true))⟩,
    ⟨(some 11), .len (.t 10), (some (8, true))⟩,
    ⟨(some 12), .bin .eql (.t 11) (.c (.int 0)), (some (8, true))⟩,
    ⟨(some 13), .pick (.t 8) (.t 12) (.c (.bool false)), none⟩,
    ⟨(some 14), .mov (.t 13), none⟩,
    ⟨(some 15), .faddr (some 1) 2 (.b 1), (some (14, true))⟩,
    ⟨(some 16), .load (some 1) 3 true (.t 15), (some (14, true))⟩,
    ⟨(some 17), .load (some 3) 3 true (.b 3), (some (14, true))⟩,
    ⟨(some 18), .eql false [.int .i64, .int .i64, .str] (.t 16) (.t 17), (some (14, true))⟩,
    ⟨(some 19), .pick (.t 14) (.t 18) (.c (.bool false)), none⟩,
    ⟨(some 20), .mov (.t 19), none⟩,
    ⟨(some 21), .faddr (some 1) 5 (.b 1), (some (20, true))⟩,
    ⟨(some 22), .load (some 1) 1 false (.t 21), (some (20, true))⟩,
    ⟨(some 23), .bin .eql (.t 22) (.c (.int 0)), (some (20, true))⟩,
    ⟨(some 24), .pick (.t 20) (.t 23) (.c (.bool false)), none⟩,
    ⟨(some 25), .mov (.t 24), none⟩,
    ⟨(some 26), .faddr (some 1) 6 (.b 1), (some (25, true))⟩,
    ⟨(some 27), .load (some 1) 1 false (.t 26), (some (25, true))⟩,
    ⟨(some 28), .len (.t 27), (some (25, true))⟩,
    ⟨(some 29), .bin .eql (.t 28) (.c (.int 0)), (some (25, true))⟩,
    ⟨(some 30), .pick (.t 25) (.t 29) (.c (.bool false)), none⟩,
    ⟨(some 2), .mov (.t 30), none⟩]) <|
  .ret
def ir80 : IFn := ⟨31, [1, 3], 1, [.tmp 2], c80⟩
theorem ok80 : compFn prog [1, 3] [] f80 = some ir80 := by kernel_rfl
theorem wp80 {a0 : AV} {r : AV} (H : ∀ σ, WpI prog c80 (retQ [.tmp 2] fun v s => v = r ∧ s = σ) (argE [a0]) 0 σ) : Pure prog 80 [a0] r := @pure_of_wp prog hm 80 f80 [1, 3] [] ir80 [a0] r func80 ok80 (Nat.le_of_ble_eq_true rfl) H
theorem wa80 {a0 : AV} {σ : Heap} {R : AV → Heap → Prop} (H : WpI prog c80 (retQ [.tmp 2] R) (argE [a0]) 0 σ) : CallsA prog 80 [a0] σ R := @callsA_of_wp prog [1, 3] hm 80 f80 [] ir80 [a0] σ R func80 ok80 (Nat.le_of_ble_eq_true rfl) H
/- r04.Refs -/
def c254 : ICode :=
  .seq (.region 3 [⟨(some 2), .bbox 0 (.t 0), none⟩,
    ⟨(some 3), .bbox 1 (.t 1), none⟩,
    ⟨(some 4), .mov (.c (.int 0)), none⟩]) <|
  .seq (.seq (.region 6 [⟨(some 5), .faddr (some 2) 0 (.b 2), none⟩,
    ⟨(some 6), .load (some 2) 2 true (.t 5), none⟩,
    ⟨(some 7), .faddr (some 3) 0 (.b 3), none⟩,
    ⟨(some 8), .load (some 3) 2 true (.t 7), none⟩,
    ⟨(some 9), .call (.c (.clo 182 [])) [(.t 6), (.t 8)], none⟩,
    ⟨(some 10), .bin .neq (.t 9) (.c (.int 0)), none⟩]) <|
  .cond (.t 10) (.seq (.region 6 [⟨(some 11), .faddr (some 2) 0 (.b 2), none⟩,
    ⟨(some 12), .load (some 2) 2 true (.t 11), none⟩,
    ⟨(some 13), .faddr (some 3) 0 (.b 3), none⟩,
    ⟨(some 14), .load (some 3) 2 true (.t 13), none⟩,
    ⟨(some 15), .call (.c (.clo 182 [])) [(.t 12), (.t 14)], none⟩,
    ⟨(some 4), .mov (.t 15), none⟩]) <|
  .ret) (.skip)) <|
  .seq (.region 6 [⟨(some 16), .faddr (some 2) 2 (.b 2), none⟩,
    ⟨(some 17), .load (some 2) 1 false (.t 16), none⟩,
    ⟨(some 18), .faddr (some 3) 2 (.b 3), none⟩,
    ⟨(some 19), .load (some 3) 1 false (.t 18), none⟩,
    ⟨(some 20), .call (.c (.clo 248 [])) [(.t 17), (.t 19)], none⟩,
    ⟨(some 4), .mov (.t 20), none⟩]) <|
  .ret
def ir254 : IFn := ⟨21, [2, 3], 2, [.tmp 4], c254⟩
theorem ok254 : compFn prog [2, 3] [] f254 = some ir254 := by kernel_rfl
theorem wp254 {a0 a1 : AV} {r : AV} (H : ∀ σ, WpI prog c254 (retQ [.tmp 4] fun v s => v = r ∧ s = σ) (argE [a0, a1]) 0 σ) : Pure prog 254 [a0, a1] r := @pure_of_wp prog hm 254 f254 [2, 3] [] ir254 [a0, a1] r func254 ok254 (Nat.le_of_ble_eq_true rfl) H
theorem wa254 {a0 a1 : AV} {σ : Heap} {R : AV → Heap → Prop} (H : WpI prog c254 (retQ [.tmp 4] R) (argE [a0, a1]) 0 σ) : CallsA prog 254 [a0, a1] σ R := @callsA_of_wp prog [2, 3] hm 254 f254 [] ir254 [a0, a1] σ R func254 ok254 (Nat.le_of_ble_eq_true rfl) H
/- r08.Right -/
def c98l0 : ICode :=
  .seq (.seq (.region 4 [⟨(some 4), .mov (.t 3), none⟩,
    ⟨(some 5), .mov (.t 0), none⟩,
    ⟨(some 6), .len (.t 5), none⟩,
    ⟨(some 7), .bin .lss (.t 4) (.t 6), none⟩]) <|
  .cond (.t 7) (.skip) (.exit 0)) <|
  .seq (.block 1 (.seq (.region 25 [⟨(some 10), .mov (.t 0), none⟩,
    ⟨(some 11), .mov (.t 3), none⟩,
    ⟨(some 12), .iaddrS 3 (.t 10) (.t 11), none⟩,
    ⟨(some 13), .load none 3 true (.t 12), none⟩,
    ⟨(some 14), .call (.c (.clo 192 [])) [(.t 13)], none⟩,
    ⟨(some 15), .un .not (.t 14), none⟩,
    ⟨(some 16), .mov (.t 15), none⟩,
    ⟨(some 17), .mov (.t 3), (some (16, false))⟩,
    ⟨(some 18), .bin .gtr (.t 17) (.c (.int 0)), (some (16, false))⟩,
    ⟨(some 19), .mov (.t 18), (some (16, false))⟩,
    ⟨(some 20), .mov (.t 0), (some (19, true))⟩,
    ⟨(some 21), .mov (.t 3), (some (19, true))⟩,
    ⟨(some 22), .bin .sub (.t 21) (.c (.int 1)), (some (19, true))⟩,
    ⟨(some 23), .iaddrS 3 (.t 20) (.t 22), (some (19, true))⟩,
    ⟨(some 24), .faddr none 0 (.t 23), (some (19, true))⟩,
    ⟨(some 25), .load none 2 true (.t 24), (some (19, true))⟩,
    ⟨(some 26), .mov (.t 0), (some (19, true))⟩,
    ⟨(some 27), .mov (.t 3), (some (19, true))⟩,
    ⟨(some 28), .iaddrS 3 (.t 26) (.t 27), (some (19, true))⟩,
    ⟨(some 29), .faddr none 0 (.t 28), (some (19, true))⟩,
    ⟨(some 30), .load none 2 true (.t 29), (some (19, true))⟩,
    ⟨(some 31), .call (.c (.clo 182 [])) [(.t 25), (.t 30)], (some (19, true))⟩,
    ⟨(some 32), .bin .neq (.t 31) (.c (.int (-1))), (some (19, true))⟩,
    ⟨(some 33), .pick (.t 19) (.t 32) (.c (.bool false)), (some (16, false))⟩,
    ⟨(some 34), .pick (.t 16) (.c (.bool true)) (.t 33), none⟩]) <|
  .cond (.t 34) (.seq (.region 1 [⟨(some 2), .mov (.c (.bool false)), none⟩]) <|
  .ret) (.skip))) <|
  .region 3 [⟨(some 8), .mov (.t 3), none⟩,
    ⟨(some 9), .bin .add (.t 8) (.c (.int 1)), none⟩,
    ⟨(some 3), .mov (.t 9), none⟩]
def c98 : ICode :=
  .seq (.region 1 [⟨(some 2), .mov (.c (.bool false)), none⟩]) <|
  .seq (.seq (.region 1 [⟨(some 3), .mov (.c (.int 0)), none⟩]) <|
  .block 0 (.loop c98l0)) <|
  .seq (.region 1 [⟨(some 2), .mov (.c (.bool true)), none⟩]) <|
  .ret
def ir98 : IFn := ⟨35, [], 1, [.tmp 2], c98⟩
theorem ok98 : compFn prog [] [] f98 = some ir98 := by kernel_rfl
theorem wp98 {a0 : AV} {r : AV} (H : ∀ σ, WpI prog c98 (retQ [.tmp 2] fun v s => v = r ∧ s = σ) (argE [a0]) 0 σ) : Pure prog 98 [a0] r := @pure_of_wp prog hm 98 f98 [] [] ir98 [a0] r func98 ok98 (Nat.le_of_ble_eq_true rfl) H
theorem wa98 {a0 : AV} {σ : Heap} {R : AV → Heap → Prop} (H : WpI prog c98 (retQ [.tmp 2] R) (argE [a0]) 0 σ) : CallsA prog 98 [a0] σ R := @callsA_of_wp prog [] hm 98 f98 [] ir98 [a0] σ R func98 ok98 (Nat.le_of_ble_eq_true rfl) H


theorem k_r04_Refs (a b : Ref) : Pure prog 254 [encRef a, encRef b] (.int (cmpRef a b)) := by
  refine wp254 fun σ => ?_
  unfold c254
  simp -dsimp (disch := first | omega | assumption) only [↓PB, ↓reduceIte, QB, QC, QD, QE, Nat.reduceAdd, Nat.reduceMul, Nat.reduceEqDiff, Nat.reduceLT, Nat.reduceLeDiff, reduceCtorEq]
  repeat' (first
    | (with_reducible refine CallG.pure (k_r04_Compare _ _) ?_)
    | (with_reducible refine CallQ.pure (k_r04_Compare _ _) ?_)
    | (with_reducible refine CallG.pure (k_r04_ints _ _) ?_)
    | (with_reducible refine CallQ.pure (k_r04_ints _ _) ?_)
    | (with_reducible refine condD (fun _ => ?_) (fun _ => ?_)) <;> try (exfalso; omega)
    | (with_reducible refine condB (fun _ => ?_) (fun _ => ?_))
    | (with_reducible refine guardD (fun _ => ?_) (fun _ => ?_)) <;> try (exfalso; omega)
    | (with_reducible refine guardB (fun _ => ?_) (fun _ => ?_))
    | (with_reducible refine app_row (by assumption) src_lst (by simp only [List.length_map, List.length_append, List.length_cons, List.length_nil]; omega) (by simp only [List.length_map, List.length_append, List.length_cons, List.length_nil]; omega) (fun _ _ => ?_))
    | (simp -dsimp (disch := first | omega | assumption) only [↓PB, ↓reduceIte, QB, QC, QD, QE, Nat.reduceAdd, Nat.reduceMul, Nat.reduceEqDiff, Nat.reduceLT, Nat.reduceLeDiff, reduceCtorEq, *]))
  all_goals exact RetG.same ⟨by simp [t4, cmpRef, *], rfl⟩

theorem k_r08_Right (l : List Undo) (hl : l.length ≤ 9223372036854775807) : Pure prog 98 [encL 3 encUndo l] (.bool (undosRight l)) := by
  refine wp98 fun σ => ?_
  unfold c98
  try simp -dsimp (disch := first | omega | assumption) only [↓PB, ↓reduceIte, QB, QC, QD, QE, Nat.reduceAdd, Nat.reduceMul, Nat.reduceEqDiff, Nat.reduceLT, Nat.reduceLeDiff, reduceCtorEq]
  refine loop_up l.length (fun i e w => e 0 = encL 3 encUndo l ∧ e 3 = .int i ∧ w = σ ∧ undosRight l = chk undoOne (fun a b => decide (cmpDot a.D b.D = -1)) l i) 0 (Nat.zero_le _) ?_ ?_
  · exact ⟨by (try simp -dsimp (disch := first | omega | assumption) only [↓PB, ↓reduceIte, QB, QC, QD, QE, Nat.reduceAdd, Nat.reduceMul, Nat.reduceEqDiff, Nat.reduceLT, Nat.reduceLeDiff, reduceCtorEq]), by (try simp -dsimp (disch := first | omega | assumption) only [↓PB, ↓reduceIte, QB, QC, QD, QE, Nat.reduceAdd, Nat.reduceMul, Nat.reduceEqDiff, Nat.reduceLT, Nat.reduceLeDiff, reduceCtorEq]) <;> rfl, rfl, by simp [undosRight, chk]⟩
  · rintro i e n w hi ⟨h0, h3, rfl, hg⟩
    unfold c98l0
    try simp -dsimp (disch := first | omega | assumption) only [↓PB, ↓reduceIte, QB, QC, QD, QE, Nat.reduceAdd, Nat.reduceMul, Nat.reduceEqDiff, Nat.reduceLT, Nat.reduceLeDiff, reduceCtorEq, h0, h3]
    rw [CondK_dec]
    refine ⟨fun h => ?_, fun h => ?_⟩ <;> (try simp -dsimp (disch := first | omega | assumption) only [↓PB, ↓reduceIte, QB, QC, QD, QE, Nat.reduceAdd, Nat.reduceMul, Nat.reduceEqDiff, Nat.reduceLT, Nat.reduceLeDiff, reduceCtorEq, h, h0, h3])
    · have hx : l[i]? = some l[i] := List.getElem?_eq_getElem h
      rw [chk_step h] at hg
      try simp -dsimp (disch := first | omega | assumption) only [↓PB, ↓reduceIte, QB, QC, QD, QE, Nat.reduceAdd, Nat.reduceMul, Nat.reduceEqDiff, Nat.reduceLT, Nat.reduceLeDiff, reduceCtorEq, h0, h3, hx]
      refine CallG.pure (k_r08_one _) ?_
      try simp -dsimp (disch := first | omega | assumption) only [↓PB, ↓reduceIte, QB, QC, QD, QE, Nat.reduceAdd, Nat.reduceMul, Nat.reduceEqDiff, Nat.reduceLT, Nat.reduceLeDiff, reduceCtorEq, h0, h3, notA]
      rw [GuardK_bool]
      refine ⟨fun h4 => ?_, fun h4 => ?_⟩ <;> (try simp -dsimp (disch := first | omega | assumption) only [↓PB, ↓reduceIte, QB, QC, QD, QE, Nat.reduceAdd, Nat.reduceMul, Nat.reduceEqDiff, Nat.reduceLT, Nat.reduceLeDiff, reduceCtorEq, h4, h0, h3])
      · rw [GuardK_dec]
        refine ⟨fun h5 => ?_, fun h5 => ?_⟩ <;> (try simp -dsimp (disch := first | omega | assumption) only [↓PB, ↓reduceIte, QB, QC, QD, QE, Nat.reduceAdd, Nat.reduceMul, Nat.reduceEqDiff, Nat.reduceLT, Nat.reduceLeDiff, reduceCtorEq, h5, h0, h3, h4])
        · have hy : l[i - 1]? = some (l[i - 1]'(by omega)) := List.getElem?_eq_getElem (by omega)
          have hw : (i : Int) - 1 = ((i - 1 : Nat) : Int) := by omega
          try simp -dsimp (disch := first | omega | assumption) only [↓PB, ↓reduceIte, QB, QC, QD, QE, Nat.reduceAdd, Nat.reduceMul, Nat.reduceEqDiff, Nat.reduceLT, Nat.reduceLeDiff, reduceCtorEq, h0, h3, hx, hy, hw, h5]
          refine CallG.pure (k_r04_Compare _ _) ?_
          try simp -dsimp (disch := first | omega | assumption) only [↓PB, ↓reduceIte, QB, QC, QD, QE, Nat.reduceAdd, Nat.reduceMul, Nat.reduceEqDiff, Nat.reduceLT, Nat.reduceLeDiff, reduceCtorEq, h0, h3, h5, h4]
          rw [dif_pos h5, h4] at hg
          rw [CondK_dec]
          refine ⟨fun h6 => ?_, fun h6 => ?_⟩ <;> (try simp -dsimp (disch := first | omega | assumption) only [↓PB, ↓reduceIte, QB, QC, QD, QE, Nat.reduceAdd, Nat.reduceMul, Nat.reduceEqDiff, Nat.reduceLT, Nat.reduceLeDiff, reduceCtorEq, h6, h0, h3])
          · refine ⟨h, by simp, ?_⟩
            rw [hg, decide_eq_true h6]; rfl
          · exact RetG.same ⟨by rw [t4, hg, decide_eq_false h6]; rfl, rfl⟩
        · rw [dif_neg h5, h4] at hg
          exact ⟨h, by simp, by rw [hg]; rfl⟩
      · rw [h4] at hg
        exact RetG.same ⟨by rw [t4, hg]; rfl, rfl⟩
    · refine RetG.same ⟨?_, rfl⟩
      rw [t4, hg, chk_end (by omega)]

end Go.Av

namespace Go.Av
open Go.Proofs.Tryz
set_option maxRecDepth 100000
set_option linter.unusedSimpArgs false
set_option linter.unusedVariables false

/- r11.Refs -/
def c191l0 : ICode :=
  .seq (.seq (.region 4 [⟨(some 4), .mov (.t 3), none⟩,
    ⟨(some 5), .mov (.t 0), none⟩,
    ⟨(some 6), .len (.t 5), none⟩,
    ⟨(some 7), .bin .lss (.t 4) (.t 6), none⟩]) <|
  .cond (.t 7) (.skip) (.exit 0)) <|
  .seq (.block 1 (.seq (.seq (.region 23 [⟨(some 10), .mov (.t 0), none⟩,
    ⟨(some 11), .mov (.t 3), none⟩,
    ⟨(some 12), .iaddrS 3 (.t 10) (.t 11), none⟩,
    ⟨(some 13), .faddr none 0 (.t 12), none⟩,
    ⟨(some 14), .load none 2 true (.t 13), none⟩,
    ⟨(some 15), .call (.c (.clo 96 [])) [(.t 14)], none⟩,
    ⟨(some 16), .un .not (.t 15), none⟩,
    ⟨(some 17), .mov (.t 16), none⟩,
    ⟨(some 18), .mov (.t 0), (some (17, false))⟩,
    ⟨(some 19), .mov (.t 3), (some (17, false))⟩,
    ⟨(some 20), .iaddrS 3 (.t 18) (.t 19), (some (17, false))⟩,
    ⟨(some 21), .faddr none 2 (.t 20), (some (17, false))⟩,
    ⟨(some 22), .load none 1 false (.t 21), (some (17, false))⟩,
    ⟨(some 23), .bin .lss (.t 22) (.c (.int 0)), (some (17, false))⟩,
    ⟨(some 24), .pick (.t 17) (.c (.bool true)) (.t 23), none⟩,
    ⟨(some 25), .mov (.t 24), none⟩,
    ⟨(some 26), .mov (.t 0), (some (25, false))⟩,
    ⟨(some 27), .mov (.t 3), (some (25, false))⟩,
    ⟨(some 28), .iaddrS 3 (.t 26) (.t 27), (some (25, false))⟩,
    ⟨(some 29), .faddr none 2 (.t 28), (some (25, false))⟩,
    ⟨(some 30), .load none 1 false (.t 29), (some (25, false))⟩,
    ⟨(some 31), .bin .gtr (.t 30) (.c (.int 15)), (some (25, false))⟩,
    ⟨(some 32), .pick (.t 25) (.c (.bool true)) (.t 31), none⟩]) <|
  .cond (.t 32) (.seq (.region 1 [⟨(some 2), .mov (.c (.bool false)), none⟩]) <|
  .ret) (.skip)) <|
  .seq (.region 15 [⟨(some 33), .mov (.t 3), none⟩,
    ⟨(some 34), .bin .gtr (.t 33) (.c (.int 0)), none⟩,
    ⟨(some 35), .mov (.t 34), none⟩,
    ⟨(some 36), .mov (.t 0), (some (35, true))⟩,
    ⟨(some 37), .mov (.t 3), (some (35, true))⟩,
    ⟨(some 38), .bin .sub (.t 37) (.c (.int 1)), (some (35, true))⟩,
    ⟨(some 39), .iaddrS 3 (.t 36) (.t 38), (some (35, true))⟩,
    ⟨(some 40), .load none 3 true (.t 39), (some (35, true))⟩,
    ⟨(some 41), .mov (.t 0), (some (35, true))⟩,
    ⟨(some 42), .mov (.t 3), (some (35, true))⟩,
    ⟨(some 43), .iaddrS 3 (.t 41) (.t 42), (some (35, true))⟩,
    ⟨(some 44), .load none 3 true (.t 43), (some (35, true))⟩,
    ⟨(some 45), .call (.c (.clo 254 [])) [(.t 40), (.t 44)], (some (35, true))⟩,
    ⟨(some 46), .bin .neq (.t 45) (.c (.int (-1))), (some (35, true))⟩,
    ⟨(some 47), .pick (.t 35) (.t 46) (.c (.bool false)), none⟩]) <|
  .cond (.t 47) (.seq (.region 1 [⟨(some 2), .mov (.c (.bool false)), none⟩]) <|
  .ret) (.skip))) <|
  .region 3 [⟨(some 8), .mov (.t 3), none⟩,
    ⟨(some 9), .bin .add (.t 8) (.c (.int 1)), none⟩,
    ⟨(some 3), .mov (.t 9), none⟩]
def c191 : ICode :=
  .seq (.region 1 [⟨(some 2), .mov (.c (.bool false)), none⟩]) <|
  .seq (.seq (.region 1 [⟨(some 3), .mov (.c (.int 0)), none⟩]) <|
  .block 0 (.loop c191l0)) <|
  .seq (.region 1 [⟨(some 2), .mov (.c (.bool true)), none⟩]) <|
  .ret
def ir191 : IFn := ⟨48, [], 1, [.tmp 2], c191⟩
theorem ok191 : compFn prog [] [] f191 = some ir191 := by kernel_rfl
theorem wp191 {a0 : AV} {r : AV} (H : ∀ σ, WpI prog c191 (retQ [.tmp 2] fun v s => v = r ∧ s = σ) (argE [a0]) 0 σ) : Pure prog 191 [a0] r := @pure_of_wp prog hm 191 f191 [] [] ir191 [a0] r func191 ok191 (Nat.le_of_ble_eq_true rfl) H
theorem wa191 {a0 : AV} {σ : Heap} {R : AV → Heap → Prop} (H : WpI prog c191 (retQ [.tmp 2] R) (argE [a0]) 0 σ) : CallsA prog 191 [a0] σ R := @callsA_of_wp prog [] hm 191 f191 [] ir191 [a0] σ R func191 ok191 (Nat.le_of_ble_eq_true rfl) H


theorem k_r11_Gone (o : Opn) : Pure prog 80 [encOpn o] (.bool (opGone o)) := by
  refine wp80 fun σ => ?_
  unfold c80
  try simp -dsimp (disch := first | omega | assumption) only [↓PB, ↓reduceIte, QB, QC, QD, QE, Nat.reduceAdd, Nat.reduceMul, Nat.reduceEqDiff, Nat.reduceLT, Nat.reduceLeDiff, reduceCtorEq, zv]
  rw [GuardK_dec]
  refine ⟨fun h1 => ?_, fun h1 => ?_⟩ <;> (try simp -dsimp (disch := first | omega | assumption) only [↓PB, ↓reduceIte, QB, QC, QD, QE, Nat.reduceAdd, Nat.reduceMul, Nat.reduceEqDiff, Nat.reduceLT, Nat.reduceLeDiff, reduceCtorEq, h1, zv])
  rotate_left
  · exact RetG.same ⟨by simp [t4, opGone, h1], rfl⟩
  rw [GuardK_dec]
  refine ⟨fun h2 => ?_, fun h2 => ?_⟩ <;> (try simp -dsimp (disch := first | omega | assumption) only [↓PB, ↓reduceIte, QB, QC, QD, QE, Nat.reduceAdd, Nat.reduceMul, Nat.reduceEqDiff, Nat.reduceLT, Nat.reduceLeDiff, reduceCtorEq, h2, h1, zv])
  rotate_left
  · exact RetG.same ⟨by rw [t4, opGone, decide_eq_false h2]; simp, rfl⟩
  rw [GuardK_dec]
  refine ⟨fun h3 => ?_, fun h3 => ?_⟩ <;> (try simp -dsimp (disch := first | omega | assumption) only [↓PB, ↓reduceIte, QB, QC, QD, QE, Nat.reduceAdd, Nat.reduceMul, Nat.reduceEqDiff, Nat.reduceLT, Nat.reduceLeDiff, reduceCtorEq, h3, h1, h2, zv])
  rotate_left
  · exact RetG.same ⟨by simp [t4, opGone, h3], rfl⟩
  rw [GuardK_dec]
  refine ⟨fun h4 => ?_, fun h4 => ?_⟩ <;> (try simp -dsimp (disch := first | omega | assumption) only [↓PB, ↓reduceIte, QB, QC, QD, QE, Nat.reduceAdd, Nat.reduceMul, Nat.reduceEqDiff, Nat.reduceLT, Nat.reduceLeDiff, reduceCtorEq, h4, h1, h2, h3, zv])
  · exact RetG.same ⟨by rw [t4, opGone, decide_eq_true h1, decide_eq_true h2, decide_eq_true h3, decide_eq_true h4]; simp, rfl⟩
  · exact RetG.same ⟨by simp [t4, opGone, h4], rfl⟩

theorem k_r11_Refs (l : List Ref) (hl : l.length ≤ 9223372036854775807) : Pure prog 191 [encL 3 encRef l] (.bool (refsRight l)) := by
  refine wp191 fun σ => ?_
  unfold c191
  try simp -dsimp (disch := first | omega | assumption) only [↓PB, ↓reduceIte, QB, QC, QD, QE, Nat.reduceAdd, Nat.reduceMul, Nat.reduceEqDiff, Nat.reduceLT, Nat.reduceLeDiff, reduceCtorEq]
  refine loop_up l.length (fun i e w => e 0 = encL 3 encRef l ∧ e 3 = .int i ∧ w = σ ∧ refsRight l = chk refOk (fun a b => decide (cmpRef a b = -1)) l i) 0 (Nat.zero_le _) ?_ ?_
  · exact ⟨by (try simp -dsimp (disch := first | omega | assumption) only [↓PB, ↓reduceIte, QB, QC, QD, QE, Nat.reduceAdd, Nat.reduceMul, Nat.reduceEqDiff, Nat.reduceLT, Nat.reduceLeDiff, reduceCtorEq]), by (try simp -dsimp (disch := first | omega | assumption) only [↓PB, ↓reduceIte, QB, QC, QD, QE, Nat.reduceAdd, Nat.reduceMul, Nat.reduceEqDiff, Nat.reduceLT, Nat.reduceLeDiff, reduceCtorEq]) <;> rfl, rfl, by simp [refsRight, chk]⟩
  · rintro i e n w hi ⟨h0, h3, rfl, hg⟩
    unfold c191l0
    try simp -dsimp (disch := first | omega | assumption) only [↓PB, ↓reduceIte, QB, QC, QD, QE, Nat.reduceAdd, Nat.reduceMul, Nat.reduceEqDiff, Nat.reduceLT, Nat.reduceLeDiff, reduceCtorEq, h0, h3]
    rw [CondK_dec]
    refine ⟨fun h => ?_, fun h => ?_⟩ <;> (try simp -dsimp (disch := first | omega | assumption) only [↓PB, ↓reduceIte, QB, QC, QD, QE, Nat.reduceAdd, Nat.reduceMul, Nat.reduceEqDiff, Nat.reduceLT, Nat.reduceLeDiff, reduceCtorEq, h, h0, h3])
    · have hx : l[i]? = some l[i] := List.getElem?_eq_getElem h
      rw [chk_step h] at hg
      try simp -dsimp (disch := first | omega | assumption) only [↓PB, ↓reduceIte, QB, QC, QD, QE, Nat.reduceAdd, Nat.reduceMul, Nat.reduceEqDiff, Nat.reduceLT, Nat.reduceLeDiff, reduceCtorEq, h0, h3, hx]
      refine CallG.pure (k_r04_Right _) ?_
      try simp -dsimp (disch := first | omega | assumption) only [↓PB, ↓reduceIte, QB, QC, QD, QE, Nat.reduceAdd, Nat.reduceMul, Nat.reduceEqDiff, Nat.reduceLT, Nat.reduceLeDiff, reduceCtorEq, h0, h3, hx, notA]
      rw [GuardK_bool]
      refine ⟨fun h4 => ?_, fun h4 => ?_⟩ <;> (try simp -dsimp (disch := first | omega | assumption) only [↓PB, ↓reduceIte, QB, QC, QD, QE, Nat.reduceAdd, Nat.reduceMul, Nat.reduceEqDiff, Nat.reduceLT, Nat.reduceLeDiff, reduceCtorEq, h4, h0, h3, hx])
      rotate_left
      · exact RetG.same ⟨by rw [t4, hg, refOk, h4]; rfl, rfl⟩
      rw [GuardK_dec]
      refine ⟨fun h5 => ?_, fun h5 => ?_⟩ <;> (try simp -dsimp (disch := first | omega | assumption) only [↓PB, ↓reduceIte, QB, QC, QD, QE, Nat.reduceAdd, Nat.reduceMul, Nat.reduceEqDiff, Nat.reduceLT, Nat.reduceLeDiff, reduceCtorEq, h5, h0, h3, hx, h4])
      · exact RetG.same ⟨by rw [t4, hg, refOk, h4, decide_eq_false (by omega)]; rfl, rfl⟩
      rw [CondK_dec]
      refine ⟨fun h6 => ?_, fun h6 => ?_⟩ <;> (try simp -dsimp (disch := first | omega | assumption) only [↓PB, ↓reduceIte, QB, QC, QD, QE, Nat.reduceAdd, Nat.reduceMul, Nat.reduceEqDiff, Nat.reduceLT, Nat.reduceLeDiff, reduceCtorEq, h6, h0, h3, hx, h4, h5])
      · exact RetG.same ⟨by rw [t4, hg, refOk, h4, decide_eq_false (by omega)]; rfl, rfl⟩
      have hr : refOk l[i] = true := by rw [refOk, h4, decide_eq_true (by omega)]; rfl
      rw [hr] at hg
      rw [GuardK_dec]
      refine ⟨fun h7 => ?_, fun h7 => ?_⟩ <;> (try simp -dsimp (disch := first | omega | assumption) only [↓PB, ↓reduceIte, QB, QC, QD, QE, Nat.reduceAdd, Nat.reduceMul, Nat.reduceEqDiff, Nat.reduceLT, Nat.reduceLeDiff, reduceCtorEq, h7, h0, h3, hx, h4, h5])
      · have hy : l[i - 1]? = some (l[i - 1]'(by omega)) := List.getElem?_eq_getElem (by omega)
        have hw : (i : Int) - 1 = ((i - 1 : Nat) : Int) := by omega
        try simp -dsimp (disch := first | omega | assumption) only [↓PB, ↓reduceIte, QB, QC, QD, QE, Nat.reduceAdd, Nat.reduceMul, Nat.reduceEqDiff, Nat.reduceLT, Nat.reduceLeDiff, reduceCtorEq, h0, h3, hx, hy, hw, h7]
        refine CallG.pure (k_r04_Refs _ _) ?_
        try simp -dsimp (disch := first | omega | assumption) only [↓PB, ↓reduceIte, QB, QC, QD, QE, Nat.reduceAdd, Nat.reduceMul, Nat.reduceEqDiff, Nat.reduceLT, Nat.reduceLeDiff, reduceCtorEq, h0, h3, h7, h4]
        rw [dif_pos h7] at hg
        rw [CondK_dec]
        refine ⟨fun h8 => ?_, fun h8 => ?_⟩ <;> (try simp -dsimp (disch := first | omega | assumption) only [↓PB, ↓reduceIte, QB, QC, QD, QE, Nat.reduceAdd, Nat.reduceMul, Nat.reduceEqDiff, Nat.reduceLT, Nat.reduceLeDiff, reduceCtorEq, h8, h0, h3])
        · refine ⟨h, by simp, ?_⟩
          rw [hg, decide_eq_true h8]; rfl
        · exact RetG.same ⟨by rw [t4, hg, decide_eq_false h8]; rfl, rfl⟩
      · rw [dif_neg h7] at hg
        exact ⟨h, by simp, by rw [hg]; rfl⟩
    · refine RetG.same ⟨?_, rfl⟩
      rw [t4, hg, chk_end (by omega)]

end Go.Av

namespace Go.Av
open Go.Proofs.Tryz
set_option maxRecDepth 100000
set_option linter.unusedSimpArgs false
set_option linter.unusedVariables false

/- r04.Same -/
def c110l0 : ICode :=
  .seq (.seq (.region 4 [⟨(some 11), .mov (.t 5), none⟩,
    ⟨(some 12), .mov (.t 0), none⟩,
    ⟨(some 13), .len (.t 12), none⟩,
    ⟨(some 14), .bin .lss (.t 11) (.t 13), none⟩]) <|
  .cond (.t 14) (.skip) (.exit 0)) <|
  .seq (.block 1 (.seq (.region 9 [⟨(some 17), .mov (.t 0), none⟩,
    ⟨(some 18), .mov (.t 5), none⟩,
    ⟨(some 19), .iaddrS 2 (.t 17) (.t 18), none⟩,
    ⟨(some 20), .load none 2 true (.t 19), none⟩,
    ⟨(some 21), .mov (.t 1), none⟩,
    ⟨(some 22), .mov (.t 5), none⟩,
    ⟨(some 23), .iaddrS 2 (.t 21) (.t 22), none⟩,
    ⟨(some 24), .load none 2 true (.t 23), none⟩,
    ⟨(some 25), .eql true [.int .i64, .int .i64] (.t 20) (.t 24), none⟩]) <|
  .cond (.t 25) (.seq (.region 1 [⟨(some 4), .mov (.c (.bool false)), none⟩]) <|
  .ret) (.skip))) <|
  .region 3 [⟨(some 15), .mov (.t 5), none⟩,
    ⟨(some 16), .bin .add (.t 15) (.c (.int 1)), none⟩,
    ⟨(some 5), .mov (.t 16), none⟩]
def c110 : ICode :=
  .seq (.region 1 [⟨(some 4), .mov (.c (.bool false)), none⟩]) <|
  .seq (.seq (.region 5 [⟨(some 6), .mov (.t 0), none⟩,
    ⟨(some 7), .len (.t 6), none⟩,
    ⟨(some 8), .mov (.t 1), none⟩,
    ⟨(some 9), .len (.t 8), none⟩,
    ⟨(some 10), .bin .neq (.t 7) (.t 9), none⟩]) <|
  .cond (.t 10) (.seq (.region 1 [⟨(some 4), .mov (.c (.bool false)), none⟩]) <|
  .ret) (.skip)) <|
  .seq (.seq (.region 1 [⟨(some 5), .mov (.c (.int 0)), none⟩]) <|
  .block 0 (.loop c110l0)) <|
  .seq (.region 1 [⟨(some 4), .mov (.c (.bool true)), none⟩]) <|
  .ret
def ir110 : IFn := ⟨26, [], 2, [.tmp 4], c110⟩
theorem ok110 : compFn prog [] [] f110 = some ir110 := by kernel_rfl
theorem wp110 {a0 a1 : AV} {r : AV} (H : ∀ σ, WpI prog c110 (retQ [.tmp 4] fun v s => v = r ∧ s = σ) (argE [a0, a1]) 0 σ) : Pure prog 110 [a0, a1] r := @pure_of_wp prog hm 110 f110 [] [] ir110 [a0, a1] r func110 ok110 (Nat.le_of_ble_eq_true rfl) H
theorem wa110 {a0 a1 : AV} {σ : Heap} {R : AV → Heap → Prop} (H : WpI prog c110 (retQ [.tmp 4] R) (argE [a0, a1]) 0 σ) : CallsA prog 110 [a0, a1] σ R := @callsA_of_wp prog [] hm 110 f110 [] ir110 [a0, a1] σ R func110 ok110 (Nat.le_of_ble_eq_true rfl) H


theorem k_r04_Same (a b : List Dot) (ha : a.length ≤ 9223372036854775807) : Pure prog 110 [encL 2 encDot a, encL 2 encDot b] (.bool (decide (a = b))) := by
  refine wp110 fun σ => ?_
  unfold c110
  simp -dsimp (disch := first | omega | assumption) only [↓PB, ↓reduceIte, QB, QC, QD, QE, Nat.reduceAdd, Nat.reduceMul, Nat.reduceEqDiff, Nat.reduceLT, Nat.reduceLeDiff, reduceCtorEq]
  repeat' (first
    | (with_reducible refine condD (fun _ => ?_) (fun _ => ?_)) <;> try (exfalso; omega)
    | (with_reducible refine condB (fun _ => ?_) (fun _ => ?_))
    | (with_reducible refine guardD (fun _ => ?_) (fun _ => ?_)) <;> try (exfalso; omega)
    | (with_reducible refine guardB (fun _ => ?_) (fun _ => ?_))
    | (with_reducible refine app_row (by assumption) src_lst (by simp only [List.length_map, List.length_append, List.length_cons, List.length_nil]; omega) (by simp only [List.length_map, List.length_append, List.length_cons, List.length_nil]; omega) (fun _ _ => ?_))
    | (simp -dsimp (disch := first | omega | assumption) only [↓PB, ↓reduceIte, QB, QC, QD, QE, Nat.reduceAdd, Nat.reduceMul, Nat.reduceEqDiff, Nat.reduceLT, Nat.reduceLeDiff, reduceCtorEq, *]))
  rotate_left
  · exact RetG.same ⟨by rw [t4, decide_eq_false (fun e => by subst e; exact absurd rfl ‹¬ a.length = a.length›)], rfl⟩
  have hab : a.length = b.length := by assumption
  refine loop_p a.length (fun i e => e 5 = .int i ∧ (a = b ↔ a.drop i = b.drop i)) 0 (by omega) ⟨by simp -dsimp (disch := first | omega | assumption) only [↓PB, ↓reduceIte, QB, QC, QD, QE, Nat.reduceAdd, Nat.reduceMul, Nat.reduceEqDiff, Nat.reduceLT, Nat.reduceLeDiff, reduceCtorEq, *] <;> rfl, by simp⟩ ?_
  rintro i e n hi hw ⟨h5, hg⟩
  have h0 := hw 0 (by decide)
  have h1 := hw 1 (by decide)
  simp -dsimp (disch := first | omega | assumption) only [↓PB, ↓reduceIte, QB, QC, QD, QE, Nat.reduceAdd, Nat.reduceMul, Nat.reduceEqDiff, Nat.reduceLT, Nat.reduceLeDiff, reduceCtorEq, *] at h0 h1
  clear hw
  unfold c110l0
  repeat' (first
    | (with_reducible refine condD (fun _ => ?_) (fun _ => ?_)) <;> try (exfalso; omega)
    | (with_reducible refine condB (fun _ => ?_) (fun _ => ?_))
    | (with_reducible refine guardD (fun _ => ?_) (fun _ => ?_)) <;> try (exfalso; omega)
    | (with_reducible refine guardB (fun _ => ?_) (fun _ => ?_))
    | (with_reducible refine app_row (by assumption) src_lst (by simp only [List.length_map, List.length_append, List.length_cons, List.length_nil]; omega) (by simp only [List.length_map, List.length_append, List.length_cons, List.length_nil]; omega) (fun _ _ => ?_))
    | (simp -dsimp (disch := first | omega | assumption) only [↓PB, ↓reduceIte, QB, QC, QD, QE, Nat.reduceAdd, Nat.reduceMul, Nat.reduceEqDiff, Nat.reduceLT, Nat.reduceLeDiff, reduceCtorEq, *]))
  · refine ⟨by simp, ?_⟩
    try rw [hg]
    rw [List.drop_eq_getElem_cons (l := a) (show i < a.length by omega), List.drop_eq_getElem_cons (l := b) (show i < b.length by omega), List.cons.injEq]
    exact ⟨fun h => h.2, fun h => ⟨by assumption, h⟩⟩
  · refine RetG.same ⟨?_, rfl⟩
    rw [t4, decide_eq_false (fun e => ?_)]
    rw [hg, List.drop_eq_getElem_cons (l := a) (show i < a.length by omega), List.drop_eq_getElem_cons (l := b) (show i < b.length by omega), List.cons.injEq] at e
    exact absurd e.1 (by assumption)
  · refine RetG.same ⟨?_, rfl⟩
    rw [t4, decide_eq_true (hg.2 (by rw [List.drop_eq_nil_of_le (by omega), List.drop_eq_nil_of_le (by omega)]))]

end Go.Av

