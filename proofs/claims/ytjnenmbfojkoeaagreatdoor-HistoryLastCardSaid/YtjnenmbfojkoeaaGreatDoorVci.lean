/- Part 9 of the proof: own lemmas, of no statement. -/
import Derived.Test.YtjnenmbfojkoeaaGreatDoorVch
import Derived.Test.YtjnenmbfojkoeaaGreatDoorVce
import Derived.Test.YtjnenmbfojkoeaaGreatDoorVcf
set_option linter.unusedSimpArgs false
set_option linter.unusedVariables false
set_option linter.defProp false
namespace Go.Av
open Go.Proofs.Tryz
set_option maxRecDepth 100000
set_option linter.unusedSimpArgs false
set_option linter.unusedVariables false

/- r06.Right -/
def c119l0 : ICode :=
  .seq (.seq (.region 5 [⟨(some 15), .mov (.t 3), none⟩,
    ⟨(some 16), .faddr (some 1) 16 (.b 1), none⟩,
    ⟨(some 17), .load (some 1) 1 false (.t 16), none⟩,
    ⟨(some 18), .len (.t 17), none⟩,
    ⟨(some 19), .bin .lss (.t 15) (.t 18), none⟩]) <|
  .cond (.t 19) (.skip) (.exit 0)) <|
  .seq (.block 1 (.seq (.region 7 [⟨(some 22), .faddr (some 1) 16 (.b 1), none⟩,
    ⟨(some 23), .load (some 1) 1 false (.t 22), none⟩,
    ⟨(some 24), .mov (.t 3), none⟩,
    ⟨(some 25), .iaddrS 2 (.t 23) (.t 24), none⟩,
    ⟨(some 26), .load none 2 true (.t 25), none⟩,
    ⟨(some 4), .nbox 5 (.agg [(.int 0), (.int 0)]), none⟩,
    ⟨none, .store (some 4) 2 (.b 4) (.t 26), none⟩]) <|
  .seq (.seq (.region 14 [⟨(some 27), .load (some 4) 2 true (.b 4), none⟩,
    ⟨(some 28), .call (.c (.clo 96 [])) [(.t 27)], none⟩,
    ⟨(some 29), .un .not (.t 28), none⟩,
    ⟨(some 30), .mov (.t 29), none⟩,
    ⟨(some 31), .faddr (some 4) 1 (.b 4), (some (30, false))⟩,
    ⟨(some 32), .load (some 4) 1 false (.t 31), (some (30, false))⟩,
    ⟨(some 33), .bin .sub (.t 32) (.c (.int 1)), (some (30, false))⟩,
    ⟨(some 34), .faddr (some 4) 0 (.b 4), (some (30, false))⟩,
    ⟨(some 35), .load (some 4) 1 false (.t 34), (some (30, false))⟩,
    ⟨(some 36), .faddr (some 1) 0 (.b 1), (some (30, false))⟩,
    ⟨(some 37), .iaddrA (some 1) 16 1 (.t 36) (.t 35), (some (30, false))⟩,
    ⟨(some 38), .load (some 1) 1 false (.t 37), (some (30, false))⟩,
    ⟨(some 39), .bin .leq (.t 33) (.t 38), (some (30, false))⟩,
    ⟨(some 40), .pick (.t 30) (.c (.bool true)) (.t 39), none⟩]) <|
  .cond (.t 40) (.seq (.region 1 [⟨(some 2), .mov (.c (.bool false)), none⟩]) <|
  .ret) (.skip)) <|
  .seq (.region 13 [⟨(some 41), .mov (.t 3), none⟩,
    ⟨(some 42), .bin .gtr (.t 41) (.c (.int 0)), none⟩,
    ⟨(some 43), .mov (.t 42), none⟩,
    ⟨(some 44), .faddr (some 1) 16 (.b 1), (some (43, true))⟩,
    ⟨(some 45), .load (some 1) 1 false (.t 44), (some (43, true))⟩,
    ⟨(some 46), .mov (.t 3), (some (43, true))⟩,
    ⟨(some 47), .bin .sub (.t 46) (.c (.int 1)), (some (43, true))⟩,
    ⟨(some 48), .iaddrS 2 (.t 45) (.t 47), (some (43, true))⟩,
    ⟨(some 49), .load none 2 true (.t 48), (some (43, true))⟩,
    ⟨(some 50), .load (some 4) 2 true (.b 4), (some (43, true))⟩,
    ⟨(some 51), .call (.c (.clo 182 [])) [(.t 49), (.t 50)], (some (43, true))⟩,
    ⟨(some 52), .bin .neq (.t 51) (.c (.int (-1))), (some (43, true))⟩,
    ⟨(some 53), .pick (.t 43) (.t 52) (.c (.bool false)), none⟩]) <|
  .cond (.t 53) (.seq (.region 1 [⟨(some 2), .mov (.c (.bool false)), none⟩]) <|
  .ret) (.skip))) <|
  .region 3 [⟨(some 20), .mov (.t 3), none⟩,
    ⟨(some 21), .bin .add (.t 20) (.c (.int 1)), none⟩,
    ⟨(some 3), .mov (.t 21), none⟩]
def c119 : ICode :=
  .seq (.region 2 [⟨(some 1), .bbox 0 (.t 0), none⟩,
    ⟨(some 2), .mov (.c (.bool false)), none⟩]) <|
  .seq (.seq (.region 10 [⟨(some 5), .faddr (some 1) 0 (.b 1), none⟩,
    ⟨(some 6), .load (some 1) 16 true (.t 5), none⟩,
    ⟨(some 7), .call (.c (.clo 219 [])) [(.t 6)], none⟩,
    ⟨(some 8), .un .not (.t 7), none⟩,
    ⟨(some 9), .mov (.t 8), none⟩,
    ⟨(some 10), .faddr (some 1) 16 (.b 1), (some (9, false))⟩,
    ⟨(some 11), .load (some 1) 1 false (.t 10), (some (9, false))⟩,
    ⟨(some 12), .len (.t 11), (some (9, false))⟩,
    ⟨(some 13), .bin .gtr (.t 12) (.c (.int 4096)), (some (9, false))⟩,
    ⟨(some 14), .pick (.t 9) (.c (.bool true)) (.t 13), none⟩]) <|
  .cond (.t 14) (.seq (.region 1 [⟨(some 2), .mov (.c (.bool false)), none⟩]) <|
  .ret) (.skip)) <|
  .seq (.seq (.region 1 [⟨(some 3), .mov (.c (.int 0)), none⟩]) <|
  .block 0 (.loop c119l0)) <|
  .seq (.region 1 [⟨(some 2), .mov (.c (.bool true)), none⟩]) <|
  .ret
def ir119 : IFn := ⟨54, [1, 4], 1, [.tmp 2], c119⟩
theorem ok119 : compFn prog [1, 4] [] f119 = some ir119 := by kernel_rfl
theorem wp119 {a0 : AV} {r : AV} (H : ∀ σ, WpI prog c119 (retQ [.tmp 2] fun v s => v = r ∧ s = σ) (argE [a0]) 0 σ) : Pure prog 119 [a0] r := @pure_of_wp prog hm 119 f119 [1, 4] [] ir119 [a0] r func119 ok119 (Nat.le_of_ble_eq_true rfl) H
theorem wa119 {a0 : AV} {σ : Heap} {R : AV → Heap → Prop} (H : WpI prog c119 (retQ [.tmp 2] R) (argE [a0]) 0 σ) : CallsA prog 119 [a0] σ R := @callsA_of_wp prog [1, 4] hm 119 f119 [] ir119 [a0] σ R func119 ok119 (Nat.le_of_ble_eq_true rfl) H
/- r06.filled -/
def c217l0 : ICode :=
  .seq (.seq (.region 5 [⟨(some 9), .mov (.t 4), none⟩,
    ⟨(some 10), .faddr (some 1) 16 (.b 1), none⟩,
    ⟨(some 11), .load (some 1) 1 false (.t 10), none⟩,
    ⟨(some 12), .len (.t 11), none⟩,
    ⟨(some 13), .bin .lss (.t 9) (.t 12), none⟩]) <|
  .cond (.t 13) (.skip) (.exit 0)) <|
  .seq (.block 1 (.seq (.region 7 [⟨(some 16), .faddr (some 1) 16 (.b 1), none⟩,
    ⟨(some 17), .load (some 1) 1 false (.t 16), none⟩,
    ⟨(some 18), .mov (.t 4), none⟩,
    ⟨(some 19), .iaddrS 2 (.t 17) (.t 18), none⟩,
    ⟨(some 20), .load none 2 true (.t 19), none⟩,
    ⟨(some 5), .nbox 5 (.agg [(.int 0), (.int 0)]), none⟩,
    ⟨none, .store (some 5) 2 (.b 5) (.t 20), none⟩]) <|
  .seq (.region 9 [⟨(some 21), .faddr (some 5) 1 (.b 5), none⟩,
    ⟨(some 22), .load (some 5) 1 false (.t 21), none⟩,
    ⟨(some 23), .faddr (some 5) 0 (.b 5), none⟩,
    ⟨(some 24), .load (some 5) 1 false (.t 23), none⟩,
    ⟨(some 25), .faddr (some 3) 0 (.b 3), none⟩,
    ⟨(some 26), .iaddrA (some 3) 16 1 (.t 25) (.t 24), none⟩,
    ⟨(some 27), .load (some 3) 1 false (.t 26), none⟩,
    ⟨(some 28), .bin .add (.t 27) (.c (.int 1)), none⟩,
    ⟨(some 29), .bin .eql (.t 22) (.t 28), none⟩]) <|
  .cond (.t 29) (.region 7 [⟨(some 30), .faddr (some 5) 0 (.b 5), none⟩,
    ⟨(some 31), .load (some 5) 1 false (.t 30), none⟩,
    ⟨(some 32), .faddr (some 5) 1 (.b 5), none⟩,
    ⟨(some 33), .load (some 5) 1 false (.t 32), none⟩,
    ⟨(some 34), .faddr (some 3) 0 (.b 3), none⟩,
    ⟨(some 35), .iaddrA (some 3) 16 1 (.t 34) (.t 31), none⟩,
    ⟨none, .store (some 3) 1 (.t 35) (.t 33), none⟩]) (.seq (.region 8 [⟨(some 36), .faddr (some 5) 1 (.b 5), none⟩,
    ⟨(some 37), .load (some 5) 1 false (.t 36), none⟩,
    ⟨(some 38), .faddr (some 5) 0 (.b 5), none⟩,
    ⟨(some 39), .load (some 5) 1 false (.t 38), none⟩,
    ⟨(some 40), .faddr (some 3) 0 (.b 3), none⟩,
    ⟨(some 41), .iaddrA (some 3) 16 1 (.t 40) (.t 39), none⟩,
    ⟨(some 42), .load (some 3) 1 false (.t 41), none⟩,
    ⟨(some 43), .bin .gtr (.t 37) (.t 42), none⟩]) <|
  .cond (.t 43) (.region 7 [⟨(some 44), .faddr (some 3) 16 (.b 3), none⟩,
    ⟨(some 45), .load (some 3) 1 false (.t 44), none⟩,
    ⟨(some 46), .load (some 5) 2 true (.b 5), none⟩,
    ⟨(some 47), .bslice 2 [(.t 46)], none⟩,
    ⟨(some 48), .app 2 16 (.t 45) (.t 47), none⟩,
    ⟨(some 49), .faddr (some 3) 16 (.b 3), none⟩,
    ⟨none, .store (some 3) 1 (.t 49) (.t 48), none⟩]) (.skip)))) <|
  .region 3 [⟨(some 14), .mov (.t 4), none⟩,
    ⟨(some 15), .bin .add (.t 14) (.c (.int 1)), none⟩,
    ⟨(some 4), .mov (.t 15), none⟩]
def c217 : ICode :=
  .seq (.region 2 [⟨(some 1), .bbox 0 (.t 0), none⟩,
    ⟨(some 2), .nbox 1 (.agg [(.int 0), (.int 0), (.int 0), (.int 0), (.int 0), (.int 0), (.int 0), (.int 0), (.int 0), (.int 0), (.int 0), (.int 0), (.int 0), (.int 0), (.int 0), (.int 0), .nils]), none⟩]) <|
  .seq (.region 5 [⟨(some 6), .faddr (some 1) 0 (.b 1), none⟩,
    ⟨(some 7), .load (some 1) 16 true (.t 6), none⟩,
    ⟨(some 8), .build (.agg [(.int 0), (.int 0), (.int 0), (.int 0), (.int 0), (.int 0), (.int 0), (.int 0), (.int 0), (.int 0), (.int 0), (.int 0), (.int 0), (.int 0), (.int 0), (.int 0), .nils]) [(0, 16, (.t 7))], none⟩,
    ⟨(some 3), .nbox 3 (.agg [(.int 0), (.int 0), (.int 0), (.int 0), (.int 0), (.int 0), (.int 0), (.int 0), (.int 0), (.int 0), (.int 0), (.int 0), (.int 0), (.int 0), (.int 0), (.int 0), .nils]), none⟩,
    ⟨none, .store (some 3) 17 (.b 3) (.t 8), none⟩]) <|
  .seq (.seq (.region 1 [⟨(some 4), .mov (.c (.int 0)), none⟩]) <|
  .block 0 (.loop c217l0)) <|
  .seq (.region 2 [⟨(some 50), .load (some 3) 17 true (.b 3), none⟩,
    ⟨none, .store (some 2) 17 (.b 2) (.t 50), none⟩]) <|
  .ret
def ir217 : IFn := ⟨51, [1, 2, 3, 5], 1, [.cell 2 17 true], c217⟩
theorem ok217 : compFn prog [1, 2, 3, 5] [] f217 = some ir217 := by kernel_rfl
theorem wp217 {a0 : AV} {r : AV} (H : ∀ σ, WpI prog c217 (retQ [.cell 2 17 true] fun v s => v = r ∧ s = σ) (argE [a0]) 0 σ) : Pure prog 217 [a0] r := @pure_of_wp prog hm 217 f217 [1, 2, 3, 5] [] ir217 [a0] r func217 ok217 (Nat.le_of_ble_eq_true rfl) H
theorem wa217 {a0 : AV} {σ : Heap} {R : AV → Heap → Prop} (H : WpI prog c217 (retQ [.cell 2 17 true] R) (argE [a0]) 0 σ) : CallsA prog 217 [a0] σ R := @callsA_of_wp prog [1, 2, 3, 5] hm 217 f217 [] ir217 [a0] σ R func217 ok217 (Nat.le_of_ble_eq_true rfl) H
/- r06.Put -/
def c116l0 : ICode :=
  .seq (.seq (.region 5 [⟨(some 17), .mov (.t 7), none⟩,
    ⟨(some 18), .faddr (some 2) 16 (.b 2), none⟩,
    ⟨(some 19), .load (some 2) 1 false (.t 18), none⟩,
    ⟨(some 20), .len (.t 19), none⟩,
    ⟨(some 21), .bin .lss (.t 17) (.t 20), none⟩]) <|
  .cond (.t 21) (.skip) (.exit 0)) <|
  .seq (.block 1 (.seq (.seq (.region 12 [⟨(some 24), .mov (.t 6), none⟩,
    ⟨(some 25), .un .not (.t 24), none⟩,
    ⟨(some 26), .mov (.t 25), none⟩,
    ⟨(some 27), .load (some 3) 2 true (.b 3), (some (26, true))⟩,
    ⟨(some 28), .faddr (some 2) 16 (.b 2), (some (26, true))⟩,
    ⟨(some 29), .load (some 2) 1 false (.t 28), (some (26, true))⟩,
    ⟨(some 30), .mov (.t 7), (some (26, true))⟩,
    ⟨(some 31), .iaddrS 2 (.t 29) (.t 30), (some (26, true))⟩,
    ⟨(some 32), .load none 2 true (.t 31), (some (26, true))⟩,
    ⟨(some 33), .call (.c (.clo 182 [])) [(.t 27), (.t 32)], (some (26, true))⟩,
    ⟨(some 34), .bin .lss (.t 33) (.c (.int 0)), (some (26, true))⟩,
    ⟨(some 35), .pick (.t 26) (.t 34) (.c (.bool false)), none⟩]) <|
  .cond (.t 35) (.seq (.region 5 [⟨(some 36), .mov (.t 5), none⟩,
    ⟨(some 37), .load (some 3) 2 true (.b 3), none⟩,
    ⟨(some 38), .bslice 2 [(.t 37)], none⟩,
    ⟨(some 39), .app 2 16 (.t 36) (.t 38), none⟩,
    ⟨(some 5), .mov (.t 39), none⟩]) <|
  .region 1 [⟨(some 6), .mov (.c (.bool true)), none⟩]) (.skip)) <|
  .region 9 [⟨(some 40), .mov (.t 5), none⟩,
    ⟨(some 41), .faddr (some 2) 16 (.b 2), none⟩,
    ⟨(some 42), .load (some 2) 1 false (.t 41), none⟩,
    ⟨(some 43), .mov (.t 7), none⟩,
    ⟨(some 44), .iaddrS 2 (.t 42) (.t 43), none⟩,
    ⟨(some 45), .load none 2 true (.t 44), none⟩,
    ⟨(some 46), .bslice 2 [(.t 45)], none⟩,
    ⟨(some 47), .app 2 16 (.t 40) (.t 46), none⟩,
    ⟨(some 5), .mov (.t 47), none⟩])) <|
  .region 3 [⟨(some 22), .mov (.t 7), none⟩,
    ⟨(some 23), .bin .add (.t 22) (.c (.int 1)), none⟩,
    ⟨(some 7), .mov (.t 23), none⟩]
def c116 : ICode :=
  .seq (.region 3 [⟨(some 2), .bbox 0 (.t 0), none⟩,
    ⟨(some 3), .bbox 1 (.t 1), none⟩,
    ⟨(some 4), .nbox 2 (.agg [(.int 0), (.int 0), (.int 0), (.int 0), (.int 0), (.int 0), (.int 0), (.int 0), (.int 0), (.int 0), (.int 0), (.int 0), (.int 0), (.int 0), (.int 0), (.int 0), .nils]), none⟩]) <|
  .seq (.seq (.region 8 [⟨(some 8), .load (some 3) 2 true (.b 3), none⟩,
    ⟨(some 9), .call (.c (.clo 96 [])) [(.t 8)], none⟩,
    ⟨(some 10), .un .not (.t 9), none⟩,
    ⟨(some 11), .mov (.t 10), none⟩,
    ⟨(some 12), .load (some 2) 17 true (.b 2), (some (11, false))⟩,
    ⟨(some 13), .load (some 3) 2 true (.b 3), (some (11, false))⟩,
    ⟨(some 14), .call (.c (.clo 82 [])) [(.t 12), (.t 13)], (some (11, false))⟩,
    ⟨(some 15), .pick (.t 11) (.c (.bool true)) (.t 14), none⟩]) <|
  .cond (.t 15) (.seq (.region 2 [⟨(some 16), .load (some 2) 17 true (.b 2), none⟩,
    ⟨none, .store (some 4) 17 (.b 4) (.t 16), none⟩]) <|
  .ret) (.skip)) <|
  .seq (.region 1 [⟨(some 5), .mov (.c .nils), none⟩]) <|
  .seq (.region 1 [⟨(some 6), .mov (.c (.bool false)), none⟩]) <|
  .seq (.seq (.region 1 [⟨(some 7), .mov (.c (.int 0)), none⟩]) <|
  .block 0 (.loop c116l0)) <|
  .seq (.seq (.region 2 [⟨(some 48), .mov (.t 6), none⟩,
    ⟨(some 49), .un .not (.t 48), none⟩]) <|
  .cond (.t 49) (.region 5 [⟨(some 50), .mov (.t 5), none⟩,
    ⟨(some 51), .load (some 3) 2 true (.b 3), none⟩,
    ⟨(some 52), .bslice 2 [(.t 51)], none⟩,
    ⟨(some 53), .app 2 16 (.t 50) (.t 52), none⟩,
    ⟨(some 5), .mov (.t 53), none⟩]) (.skip)) <|
  .seq (.region 6 [⟨(some 54), .faddr (some 2) 0 (.b 2), none⟩,
    ⟨(some 55), .load (some 2) 16 true (.t 54), none⟩,
    ⟨(some 56), .mov (.t 5), none⟩,
    ⟨(some 57), .build (.agg [(.int 0), (.int 0), (.int 0), (.int 0), (.int 0), (.int 0), (.int 0), (.int 0), (.int 0), (.int 0), (.int 0), (.int 0), (.int 0), (.int 0), (.int 0), (.int 0), .nils]) [(0, 16, (.t 55)), (16, 1, (.t 56))], none⟩,
    ⟨(some 58), .call (.c (.clo 217 [])) [(.t 57)], none⟩,
    ⟨none, .store (some 4) 17 (.b 4) (.t 58), none⟩]) <|
  .ret
def ir116 : IFn := ⟨59, [2, 3, 4], 2, [.cell 4 17 true], c116⟩
theorem ok116 : compFn prog [2, 3, 4] [] f116 = some ir116 := by kernel_rfl
theorem wp116 {a0 a1 : AV} {r : AV} (H : ∀ σ, WpI prog c116 (retQ [.cell 4 17 true] fun v s => v = r ∧ s = σ) (argE [a0, a1]) 0 σ) : Pure prog 116 [a0, a1] r := @pure_of_wp prog hm 116 f116 [2, 3, 4] [] ir116 [a0, a1] r func116 ok116 (Nat.le_of_ble_eq_true rfl) H
theorem wa116 {a0 a1 : AV} {σ : Heap} {R : AV → Heap → Prop} (H : WpI prog c116 (retQ [.cell 4 17 true] R) (argE [a0, a1]) 0 σ) : CallsA prog 116 [a0, a1] σ R := @callsA_of_wp prog [2, 3, 4] hm 116 f116 [] ir116 [a0, a1] σ R func116 ok116 (Nat.le_of_ble_eq_true rfl) H
/- r22.Known -/
def c120l0 : ICode :=
  .seq (.seq (.region 4 [⟨(some 6), .mov (.t 4), none⟩,
    ⟨(some 7), .mov (.t 0), none⟩,
    ⟨(some 8), .len (.t 7), none⟩,
    ⟨(some 9), .bin .lss (.t 6) (.t 8), none⟩]) <|
  .cond (.t 9) (.skip) (.exit 0)) <|
  .seq (.block 1 (.region 8 [⟨(some 12), .load (some 3) 17 true (.b 3), none⟩,
    ⟨(some 13), .mov (.t 0), none⟩,
    ⟨(some 14), .mov (.t 4), none⟩,
    ⟨(some 15), .iaddrS 6 (.t 13) (.t 14), none⟩,
    ⟨(some 16), .faddr none 0 (.t 15), none⟩,
    ⟨(some 17), .load none 2 true (.t 16), none⟩,
    ⟨(some 18), .call (.c (.clo 116 [])) [(.t 12), (.t 17)], none⟩,
    ⟨none, .store (some 3) 17 (.b 3) (.t 18), none⟩])) <|
  .region 3 [⟨(some 10), .mov (.t 4), none⟩,
    ⟨(some 11), .bin .add (.t 10) (.c (.int 1)), none⟩,
    ⟨(some 4), .mov (.t 11), none⟩]
def c120 : ICode :=
  .seq (.region 1 [⟨(some 2), .nbox 0 (.agg [(.int 0), (.int 0), (.int 0), (.int 0), (.int 0), (.int 0), (.int 0), (.int 0), (.int 0), (.int 0), (.int 0), (.int 0), (.int 0), (.int 0), (.int 0), (.int 0), .nils]), none⟩]) <|
  .seq (.region 3 [⟨(some 5), .build (.agg [(.int 0), (.int 0), (.int 0), (.int 0), (.int 0), (.int 0), (.int 0), (.int 0), (.int 0), (.int 0), (.int 0), (.int 0), (.int 0), (.int 0), (.int 0), (.int 0), .nils]) [], none⟩,
    ⟨(some 3), .nbox 1 (.agg [(.int 0), (.int 0), (.int 0), (.int 0), (.int 0), (.int 0), (.int 0), (.int 0), (.int 0), (.int 0), (.int 0), (.int 0), (.int 0), (.int 0), (.int 0), (.int 0), .nils]), none⟩,
    ⟨none, .store (some 3) 17 (.b 3) (.t 5), none⟩]) <|
  .seq (.seq (.region 1 [⟨(some 4), .mov (.c (.int 0)), none⟩]) <|
  .block 0 (.loop c120l0)) <|
  .seq (.region 2 [⟨(some 19), .load (some 3) 17 true (.b 3), none⟩,
    ⟨none, .store (some 2) 17 (.b 2) (.t 19), none⟩]) <|
  .ret
def ir120 : IFn := ⟨20, [2, 3], 1, [.cell 2 17 true], c120⟩
theorem ok120 : compFn prog [2, 3] [] f120 = some ir120 := by kernel_rfl
theorem wp120 {a0 : AV} {r : AV} (H : ∀ σ, WpI prog c120 (retQ [.cell 2 17 true] fun v s => v = r ∧ s = σ) (argE [a0]) 0 σ) : Pure prog 120 [a0] r := @pure_of_wp prog hm 120 f120 [2, 3] [] ir120 [a0] r func120 ok120 (Nat.le_of_ble_eq_true rfl) H
theorem wa120 {a0 : AV} {σ : Heap} {R : AV → Heap → Prop} (H : WpI prog c120 (retQ [.cell 2 17 true] R) (argE [a0]) 0 σ) : CallsA prog 120 [a0] σ R := @callsA_of_wp prog [2, 3] hm 120 f120 [] ir120 [a0] σ R func120 ok120 (Nat.le_of_ble_eq_true rfl) H
/- r06.Same -/
def c113 : ICode :=
  .seq (.region 3 [⟨(some 2), .bbox 0 (.t 0), none⟩,
    ⟨(some 3), .bbox 1 (.t 1), none⟩,
    ⟨(some 4), .mov (.c (.bool false)), none⟩]) <|
  .seq (.region 13 [⟨(some 5), .faddr (some 2) 0 (.b 2), none⟩,
    ⟨(some 6), .load (some 2) 16 true (.t 5), none⟩,
    ⟨(some 7), .faddr (some 3) 0 (.b 3), none⟩,
    ⟨(some 8), .load (some 3) 16 true (.t 7), none⟩,
    ⟨(some 9), .eql false [.int .i64, .int .i64, .int .i64, .int .i64, .int .i64, .int .i64, .int .i64, .int .i64, .int .i64, .int .i64, .int .i64, .int .i64, .int .i64, .int .i64, .int .i64, .int .i64] (.t 6) (.t 8), none⟩,
    ⟨(some 10), .mov (.t 9), none⟩,
    ⟨(some 11), .faddr (some 2) 16 (.b 2), (some (10, true))⟩,
    ⟨(some 12), .load (some 2) 1 false (.t 11), (some (10, true))⟩,
    ⟨(some 13), .faddr (some 3) 16 (.b 3), (some (10, true))⟩,
    ⟨(some 14), .load (some 3) 1 false (.t 13), (some (10, true))⟩,
    ⟨(some 15), .call (.c (.clo 110 [])) [(.t 12), (.t 14)], (some (10, true))⟩,
    ⟨(some 16), .pick (.t 10) (.t 15) (.c (.bool false)), none⟩,
    ⟨(some 4), .mov (.t 16), none⟩]) <|
  .ret
def ir113 : IFn := ⟨17, [2, 3], 2, [.tmp 4], c113⟩
theorem ok113 : compFn prog [2, 3] [] f113 = some ir113 := by kernel_rfl
theorem wp113 {a0 a1 : AV} {r : AV} (H : ∀ σ, WpI prog c113 (retQ [.tmp 4] fun v s => v = r ∧ s = σ) (argE [a0, a1]) 0 σ) : Pure prog 113 [a0, a1] r := @pure_of_wp prog hm 113 f113 [2, 3] [] ir113 [a0, a1] r func113 ok113 (Nat.le_of_ble_eq_true rfl) H
theorem wa113 {a0 a1 : AV} {σ : Heap} {R : AV → Heap → Prop} (H : WpI prog c113 (retQ [.tmp 4] R) (argE [a0, a1]) 0 σ) : CallsA prog 113 [a0, a1] σ R := @callsA_of_wp prog [2, 3] hm 113 f113 [] ir113 [a0, a1] σ R func113 ok113 (Nat.le_of_ble_eq_true rfl) H


theorem k_r06_Right (s : Dots) (hl : s.More.length ≤ 1000000) : Pure prog 119 [encDots s] (.bool (dotsRight s)) := by
  refine wp119 fun σ => ?_
  unfold c119
  simp -dsimp (disch := first | omega | assumption) only [↓PB, ↓reduceIte, QB, QC, QD, QE, Nat.reduceAdd, Nat.reduceMul, Nat.reduceEqDiff, Nat.reduceLT, Nat.reduceLeDiff, reduceCtorEq, QF]
  repeat' (first
    | (with_reducible refine CallG.pure (k_r05_Right _) ?_)
    | (with_reducible refine CallQ.pure (k_r05_Right _) ?_)
    | (with_reducible refine condD (fun _ => ?_) (fun _ => ?_)) <;> try (exfalso; omega)
    | (with_reducible refine condB (fun _ => ?_) (fun _ => ?_))
    | (with_reducible refine guardD (fun _ => ?_) (fun _ => ?_)) <;> try (exfalso; omega)
    | (with_reducible refine guardB (fun _ => ?_) (fun _ => ?_))
    | (with_reducible refine app_row (by assumption) src_lst (by simp only [List.length_map, List.length_append, List.length_cons, List.length_nil]; omega) (by simp only [List.length_map, List.length_append, List.length_cons, List.length_nil]; omega) (fun _ _ => ?_))
    | (simp -dsimp (disch := first | omega | assumption) only [↓PB, ↓reduceIte, QB, QC, QD, QE, Nat.reduceAdd, Nat.reduceMul, Nat.reduceEqDiff, Nat.reduceLT, Nat.reduceLeDiff, reduceCtorEq, QF, *]))
  rotate_left
  all_goals try exact RetG.same ⟨by simp [t4, dotsRight, *] <;> omega, rfl⟩
  refine loop_p s.More.length (fun i e => e 3 = .int i ∧ (s.More.all (dotIn s) && nbr (fun a b => decide (cmpDot a b = -1)) s.More) = chk (dotIn s) (fun a b => decide (cmpDot a b = -1)) s.More i) 0 (by omega) ⟨by simp -dsimp (disch := first | omega | assumption) only [↓PB, ↓reduceIte, QB, QC, QD, QE, Nat.reduceAdd, Nat.reduceMul, Nat.reduceEqDiff, Nat.reduceLT, Nat.reduceLeDiff, reduceCtorEq, QF, *] <;> rfl, by simp [chk]⟩ ?_
  rintro i e n hi ha ⟨h3, hg⟩
  have h1 := ha 1 (by decide)
  simp -dsimp (disch := first | omega | assumption) only [↓PB, ↓reduceIte, QB, QC, QD, QE, Nat.reduceAdd, Nat.reduceMul, Nat.reduceEqDiff, Nat.reduceLT, Nat.reduceLeDiff, reduceCtorEq, QF, *] at h1
  clear ha
  unfold c119l0
  repeat' (first
    | (with_reducible refine CallG.pure (k_r04_Right _) ?_)
    | (with_reducible refine CallQ.pure (k_r04_Right _) ?_)
    | (with_reducible refine CallG.pure (k_r04_Compare _ _) ?_)
    | (with_reducible refine CallQ.pure (k_r04_Compare _ _) ?_)
    | (with_reducible refine condD (fun _ => ?_) (fun _ => ?_)) <;> try (exfalso; omega)
    | (with_reducible refine condB (fun _ => ?_) (fun _ => ?_))
    | (with_reducible refine guardD (fun _ => ?_) (fun _ => ?_)) <;> try (exfalso; omega)
    | (with_reducible refine guardB (fun _ => ?_) (fun _ => ?_))
    | (with_reducible refine app_row (by assumption) src_lst (by simp only [List.length_map, List.length_append, List.length_cons, List.length_nil]; omega) (by simp only [List.length_map, List.length_append, List.length_cons, List.length_nil]; omega) (fun _ _ => ?_))
    | (simp -dsimp (disch := first | omega | assumption) only [↓PB, ↓reduceIte, QB, QC, QD, QE, Nat.reduceAdd, Nat.reduceMul, Nat.reduceEqDiff, Nat.reduceLT, Nat.reduceLeDiff, reduceCtorEq, QF, *]))
  all_goals try rw [chk_step (show i < s.More.length by assumption)] at hg
  · exact RetG.same ⟨by rw [t4]; simp only [dotsRight, hg, dotIn]; simp [*] <;> omega, rfl⟩
  · refine ⟨by simp, ?_⟩
    rw [chk_step (show i < s.More.length by assumption), dif_pos (by omega)]
    simp [dotIn, *]; omega
  · exact RetG.same ⟨by rw [t4]; simp only [dotsRight, hg, dotIn]; simp [*], rfl⟩
  · refine ⟨by simp, ?_⟩
    rw [chk_step (show i < s.More.length by assumption), dif_neg (by omega)]
    simp [dotIn, *]; omega
  · exact RetG.same ⟨by rw [t4]; simp only [dotsRight, hg, dotIn]; simp [*], rfl⟩
  · exact RetG.same ⟨by rw [t4]; simp only [dotsRight, hg, chk_end (show s.More.length ≤ i by omega)]; simp [*]; omega, rfl⟩

theorem vset_at {v : Vec} {n m : Nat} {x : Int} (h : n < 16) : (v.set n x).at m = if m = n then x else v.at m := by
  simp only [Vec.at, Vec.set, List.getD_eq_getElem?_getD, List.getElem?_set, v.h]
  by_cases hm : m = n
  · subst hm; simp [h]
  · simp [hm, Ne.symm hm]

theorem k_r06_filled (v : Vec) (l : List Dot) (hl : l.length ≤ 1000000) (hv : ∀ n, n < 16 → 0 ≤ v.at n ∧ v.at n ≤ 1048576) (hd : ∀ d ∈ l, dotRight d = true) : Pure prog 217 [encDots ⟨v, l⟩] (encDots (filledD v l)) := by
  refine wp217 fun σ => ?_
  unfold c217
  simp -dsimp (disch := first | omega | assumption) only [↓PB, ↓reduceIte, QB, QC, QD, QE, Nat.reduceAdd, Nat.reduceMul, Nat.reduceEqDiff, Nat.reduceLT, Nat.reduceLeDiff, reduceCtorEq, QF]
  repeat' (first
    | (with_reducible refine condD (fun _ => ?_) (fun _ => ?_)) <;> try (exfalso; omega)
    | (with_reducible refine condB (fun _ => ?_) (fun _ => ?_))
    | (with_reducible refine guardD (fun _ => ?_) (fun _ => ?_)) <;> try (exfalso; omega)
    | (with_reducible refine guardB (fun _ => ?_) (fun _ => ?_))
    | (with_reducible refine app_row (by assumption) src_lst (by simp only [List.length_map, List.length_append, List.length_cons, List.length_nil]; omega) (by simp only [List.length_map, List.length_append, List.length_cons, List.length_nil]; omega) (fun _ _ => ?_))
    | (simp -dsimp (disch := first | omega | assumption) only [↓PB, ↓reduceIte, QB, QC, QD, QE, Nat.reduceAdd, Nat.reduceMul, Nat.reduceEqDiff, Nat.reduceLT, Nat.reduceLeDiff, reduceCtorEq, QF, *]))
  have hz := dr_row v 2
  refine loop_b l.length 3 5 2 encDotsR (fun i b es e => ∃ m : List Dot, es = m.map encDot ∧ e 4 = .int i ∧ (⟨b, m⟩ : Dots) = (l.take i).foldl fill1 ⟨v, []⟩ ∧ m.length ≤ i ∧ ∀ n, n < 16 → 0 ≤ b.at n ∧ b.at n ≤ 1048576) 0 v (by omega) (by simp -dsimp (disch := first | omega | assumption) only [↓PB, ↓reduceIte, QB, QC, QD, QE, Nat.reduceAdd, Nat.reduceMul, Nat.reduceEqDiff, Nat.reduceLT, Nat.reduceLeDiff, reduceCtorEq, QF, *]) (by decide) (fun _ h => h) (fun c F μ w u h => dr_row v 2 c F μ w u h) (fun x => ⟨[], rfl, by simp -dsimp (disch := first | omega | assumption) only [↓PB, ↓reduceIte, QB, QC, QD, QE, Nat.reduceAdd, Nat.reduceMul, Nat.reduceEqDiff, Nat.reduceLT, Nat.reduceLeDiff, reduceCtorEq, QF, *] <;> rfl, rfl, by simp, hv⟩) ?_
  rintro i e n c b es hi hc ha h3 ⟨m, rfl, h4, hg, hm, hb⟩
  have h1 := ha 1 (by decide)
  have h2 := ha 2 (by decide)
  simp -dsimp (disch := first | omega | assumption) only [↓PB, ↓reduceIte, QB, QC, QD, QE, Nat.reduceAdd, Nat.reduceMul, Nat.reduceEqDiff, Nat.reduceLT, Nat.reduceLeDiff, reduceCtorEq, QF, *] at h1 h2
  clear ha
  unfold c217l0
  have hdi : ∀ h : i < l.length, dotRight l[i] = true := fun h => hd _ (List.getElem_mem h)
  by_cases hlt : i < l.length
  · have hdi := hdi hlt
    have hbi := hb _ (dR_lt hdi)
    repeat' (first
      | (with_reducible refine condD (fun _ => ?_) (fun _ => ?_)) <;> try (exfalso; omega)
      | (with_reducible refine condB (fun _ => ?_) (fun _ => ?_))
      | (with_reducible refine guardD (fun _ => ?_) (fun _ => ?_)) <;> try (exfalso; omega)
      | (with_reducible refine guardB (fun _ => ?_) (fun _ => ?_))
      | (with_reducible refine app_row (by assumption) src_lst (by simp only [List.length_map, List.length_append, List.length_cons, List.length_nil]; omega) (by simp only [List.length_map, List.length_append, List.length_cons, List.length_nil]; omega) (fun _ _ => ?_))
      | (simp -dsimp (disch := first | omega | assumption) only [↓PB, ↓reduceIte, QB, QC, QD, QE, Nat.reduceAdd, Nat.reduceMul, Nat.reduceEqDiff, Nat.reduceLT, Nat.reduceLeDiff, reduceCtorEq, QF, *]))
    · refine ⟨c, b.set l[i].R.toNat (b.at l[i].R.toNat + 1), _, hc, rfl, rfl, m, rfl, by simp, ?_, by omega, fun n hn => ?_⟩
      · rw [List.take_succ_eq_append_getElem hlt, List.foldl_append, ← hg, List.foldl_cons, List.foldl_nil, fill1, if_pos (by assumption)]
        congr 2; omega
      · rw [vset_at (dR_lt hdi)]
        split
        · have h7 := hdi
          simp only [dotRight, decide_eq_true_eq] at h7
          omega
        · exact hb n hn
    · refine ⟨_, b, _, by assumption, rfl, rfl, m ++ [l[i]], by simp, by simp, ?_, by simp; omega, hb⟩
      rw [List.take_succ_eq_append_getElem hlt, List.foldl_append, ← hg, List.foldl_cons, List.foldl_nil, fill1, if_neg (by assumption), if_pos (by assumption)]
    · refine ⟨c, b, _, hc, rfl, rfl, m, rfl, by simp, ?_, by omega, hb⟩
      rw [List.take_succ_eq_append_getElem hlt, List.foldl_append, ← hg, List.foldl_cons, List.foldl_nil, fill1, if_neg (by assumption), if_neg (by assumption)]
  · repeat' (first
      | (with_reducible refine condD (fun _ => ?_) (fun _ => ?_)) <;> try (exfalso; omega)
      | (with_reducible refine condB (fun _ => ?_) (fun _ => ?_))
      | (with_reducible refine guardD (fun _ => ?_) (fun _ => ?_)) <;> try (exfalso; omega)
      | (with_reducible refine guardB (fun _ => ?_) (fun _ => ?_))
      | (with_reducible refine app_row (by assumption) src_lst (by simp only [List.length_map, List.length_append, List.length_cons, List.length_nil]; omega) (by simp only [List.length_map, List.length_append, List.length_cons, List.length_nil]; omega) (fun _ _ => ?_))
      | (simp -dsimp (disch := first | omega | assumption) only [↓PB, ↓reduceIte, QB, QC, QD, QE, Nat.reduceAdd, Nat.reduceMul, Nat.reduceEqDiff, Nat.reduceLT, Nat.reduceLeDiff, reduceCtorEq, QF, *]))
    refine RetG.frz hc (by rw [List.map_cons, List.map_nil, frz_dr1]) (.refl _) ⟨?_, rfl⟩
    rw [t4, filledD, show l.take i = l from List.take_of_length_le (by omega)] at *
    rw [← hg]; rfl

theorem k_r06_Same (a b : Dots) (ha : a.More.length ≤ 1000000) : Pure prog 113 [encDots a, encDots b] (.bool (dotsSame a b)) := by
  refine wp113 fun σ => ?_
  unfold c113
  simp -dsimp (disch := first | omega | assumption) only [↓PB, ↓reduceIte, QB, QC, QD, QE, Nat.reduceAdd, Nat.reduceMul, Nat.reduceEqDiff, Nat.reduceLT, Nat.reduceLeDiff, reduceCtorEq, QF]
  repeat' (first
    | (with_reducible refine CallG.pure (k_r04_Same _ _ (by omega)) ?_)
    | (with_reducible refine CallQ.pure (k_r04_Same _ _ (by omega)) ?_)
    | (with_reducible refine condD (fun _ => ?_) (fun _ => ?_)) <;> try (exfalso; omega)
    | (with_reducible refine condB (fun _ => ?_) (fun _ => ?_))
    | (with_reducible refine guardD (fun _ => ?_) (fun _ => ?_)) <;> try (exfalso; omega)
    | (with_reducible refine guardB (fun _ => ?_) (fun _ => ?_))
    | (with_reducible refine app_row (by assumption) src_lst (by simp only [List.length_map, List.length_append, List.length_cons, List.length_nil]; omega) (by simp only [List.length_map, List.length_append, List.length_cons, List.length_nil]; omega) (fun _ _ => ?_))
    | (simp -dsimp (disch := first | omega | assumption) only [↓PB, ↓reduceIte, QB, QC, QD, QE, Nat.reduceAdd, Nat.reduceMul, Nat.reduceEqDiff, Nat.reduceLT, Nat.reduceLeDiff, reduceCtorEq, QF, *]))
  all_goals exact RetG.same ⟨by simp [t4, dotsSame, *], rfl⟩
theorem insDot_len (d : Dot) : ∀ l : List Dot, (insDot d l).length = l.length + 1
  | [] => rfl
  | x :: l => by rw [insDot]; split <;> simp [insDot_len d l]
theorem insDot_mem {d y : Dot} : ∀ {l : List Dot}, y ∈ insDot d l → y = d ∨ y ∈ l
  | [], h => by simpa [insDot] using h
  | x :: l, h => by
    rw [insDot] at h
    split at h
    · simpa using h
    · simp only [List.mem_cons] at h ⊢
      rcases h with h | h
      · exact .inr (.inl h)
      · rcases insDot_mem h with h | h
        · exact .inl h
        · exact .inr (.inr h)

theorem k_r06_Put (s : Dots) (d : Dot) (hl : s.More.length ≤ 999999) (hv : ∀ n, n < 16 → 0 ≤ s.V.at n ∧ s.V.at n ≤ 1048576) (hm' : ∀ d ∈ s.More, dotRight d = true) : Pure prog 116 [encDots s, encDot d] (encDots (dotsPut s d)) := by
  refine wp116 fun σ => ?_
  unfold c116
  simp -dsimp (disch := first | omega | assumption) only [↓PB, ↓reduceIte, QB, QC, QD, QE, Nat.reduceAdd, Nat.reduceMul, Nat.reduceEqDiff, Nat.reduceLT, Nat.reduceLeDiff, reduceCtorEq, QF]
  repeat' (first
    | (with_reducible refine CallG.pure (k_r04_Right _) ?_)
    | (with_reducible refine CallQ.pure (k_r04_Right _) ?_)
    | (with_reducible refine CallG.pure (k_r06_Has _ _ (by omega)) ?_)
    | (with_reducible refine CallQ.pure (k_r06_Has _ _ (by omega)) ?_)
    | (with_reducible refine condD (fun _ => ?_) (fun _ => ?_)) <;> try (exfalso; omega)
    | (with_reducible refine condB (fun _ => ?_) (fun _ => ?_))
    | (with_reducible refine guardD (fun _ => ?_) (fun _ => ?_)) <;> try (exfalso; omega)
    | (with_reducible refine guardB (fun _ => ?_) (fun _ => ?_))
    | (with_reducible refine app_row (by assumption) src_lst (by simp only [List.length_map, List.length_append, List.length_cons, List.length_nil]; omega) (by simp only [List.length_map, List.length_append, List.length_cons, List.length_nil]; omega) (fun _ _ => ?_))
    | (simp -dsimp (disch := first | omega | assumption) only [↓PB, ↓reduceIte, QB, QC, QD, QE, Nat.reduceAdd, Nat.reduceMul, Nat.reduceEqDiff, Nat.reduceLT, Nat.reduceLeDiff, reduceCtorEq, QF, *]))
  · exact RetG.same ⟨by simp [t4, dotsPut, *], rfl⟩
  · refine loop_a s.More.length 5 2 (fun i es e => ∃ (m : List Dot) (b : Bool), es = m.map encDot ∧ e 7 = .int i ∧ e 6 = .bool b ∧ insDot d s.More = (if b then m ++ s.More.drop i else m ++ insDot d (s.More.drop i)) ∧ m.length + (if b then 0 else 1) ≤ i + 1) 0 (by omega) (by simp -dsimp (disch := first | omega | assumption) only [↓PB, ↓reduceIte, QB, QC, QD, QE, Nat.reduceAdd, Nat.reduceMul, Nat.reduceEqDiff, Nat.reduceLT, Nat.reduceLeDiff, reduceCtorEq, QF, *]) (by decide) (fun v => ⟨[], false, rfl, by simp -dsimp (disch := first | omega | assumption) only [↓PB, ↓reduceIte, QB, QC, QD, QE, Nat.reduceAdd, Nat.reduceMul, Nat.reduceEqDiff, Nat.reduceLT, Nat.reduceLeDiff, reduceCtorEq, QF, *] <;> rfl, by simp -dsimp (disch := first | omega | assumption) only [↓PB, ↓reduceIte, QB, QC, QD, QE, Nat.reduceAdd, Nat.reduceMul, Nat.reduceEqDiff, Nat.reduceLT, Nat.reduceLeDiff, reduceCtorEq, QF, *], rfl, by simp⟩) ?_
    rintro i e n c es hi hc ha h5 ⟨m, b, rfl, h7, h6, hg, hm⟩
    have h2 := ha 2 (by decide)
    have h3 := ha 3 (by decide)
    have h4 := ha 4 (by decide)
    simp -dsimp (disch := first | omega | assumption) only [↓PB, ↓reduceIte, QB, QC, QD, QE, Nat.reduceAdd, Nat.reduceMul, Nat.reduceEqDiff, Nat.reduceLT, Nat.reduceLeDiff, reduceCtorEq, QF, *] at h2 h3 h4
    clear ha
    unfold c116l0
    by_cases hlt : i < s.More.length
    · have hdr : s.More.drop i = s.More[i] :: s.More.drop (i + 1) := List.drop_eq_getElem_cons hlt
      rw [hdr] at hg
      cases b
      · simp only [Bool.false_eq_true, if_false, insDot] at hg hm
        repeat' (first
          | (with_reducible refine CallG.pure (k_r04_Compare _ _) ?_)
          | (with_reducible refine CallQ.pure (k_r04_Compare _ _) ?_)
          | (with_reducible refine condD (fun _ => ?_) (fun _ => ?_)) <;> try (exfalso; omega)
          | (with_reducible refine condB (fun _ => ?_) (fun _ => ?_))
          | (with_reducible refine guardD (fun _ => ?_) (fun _ => ?_)) <;> try (exfalso; omega)
          | (with_reducible refine guardB (fun _ => ?_) (fun _ => ?_))
          | (with_reducible refine app_row (by assumption) src_lst (by simp only [List.length_map, List.length_append, List.length_cons, List.length_nil]; omega) (by simp only [List.length_map, List.length_append, List.length_cons, List.length_nil]; omega) (fun _ _ => ?_))
          | (simp -dsimp (disch := first | omega | assumption) only [↓PB, ↓reduceIte, QB, QC, QD, QE, Nat.reduceAdd, Nat.reduceMul, Nat.reduceEqDiff, Nat.reduceLT, Nat.reduceLeDiff, reduceCtorEq, QF, *]))
        · rw [if_pos (by assumption)] at hg
          exact ⟨_, _, by assumption, rfl, rfl, m ++ [d] ++ [s.More[i]], true, by simp, by simp, rfl, by simp [hg], by simp; omega⟩
        · rw [if_neg (by assumption)] at hg
          exact ⟨_, _, by assumption, rfl, rfl, m ++ [s.More[i]], false, by simp, by simp, rfl, by simp [hg], by simp; omega⟩
      · simp only [if_true] at hg hm
        repeat' (first
          | (with_reducible refine CallG.pure (k_r04_Compare _ _) ?_)
          | (with_reducible refine CallQ.pure (k_r04_Compare _ _) ?_)
          | (with_reducible refine condD (fun _ => ?_) (fun _ => ?_)) <;> try (exfalso; omega)
          | (with_reducible refine condB (fun _ => ?_) (fun _ => ?_))
          | (with_reducible refine guardD (fun _ => ?_) (fun _ => ?_)) <;> try (exfalso; omega)
          | (with_reducible refine guardB (fun _ => ?_) (fun _ => ?_))
          | (with_reducible refine app_row (by assumption) src_lst (by simp only [List.length_map, List.length_append, List.length_cons, List.length_nil]; omega) (by simp only [List.length_map, List.length_append, List.length_cons, List.length_nil]; omega) (fun _ _ => ?_))
          | (simp -dsimp (disch := first | omega | assumption) only [↓PB, ↓reduceIte, QB, QC, QD, QE, Nat.reduceAdd, Nat.reduceMul, Nat.reduceEqDiff, Nat.reduceLT, Nat.reduceLeDiff, reduceCtorEq, QF, *]))
        exact ⟨_, _, by assumption, rfl, rfl, m ++ [s.More[i]], true, by simp, by simp, rfl, by simp [hg], by simp; omega⟩
    · have hmem : ∀ y ∈ insDot d s.More, dotRight y = true := fun y hy => by
        rcases insDot_mem hy with rfl | hy
        · assumption
        · exact hm' _ hy
      have hlen := insDot_len d s.More
      rw [List.drop_eq_nil_of_le (by omega)] at hg
      have hp : dotsPut s d = filledD s.V (insDot d s.More) := by simp [dotsPut, *]
      cases b
      · simp only [Bool.false_eq_true, if_false, insDot] at hg hm
        repeat' (first
          | (with_reducible refine condD (fun _ => ?_) (fun _ => ?_)) <;> try (exfalso; omega)
          | (with_reducible refine condB (fun _ => ?_) (fun _ => ?_))
          | (with_reducible refine guardD (fun _ => ?_) (fun _ => ?_)) <;> try (exfalso; omega)
          | (with_reducible refine guardB (fun _ => ?_) (fun _ => ?_))
          | (with_reducible refine app_row (by assumption) src_lst (by simp only [List.length_map, List.length_append, List.length_cons, List.length_nil]; omega) (by simp only [List.length_map, List.length_append, List.length_cons, List.length_nil]; omega) (fun _ _ => ?_))
          | (simp -dsimp (disch := first | omega | assumption) only [↓PB, ↓reduceIte, QB, QC, QD, QE, Nat.reduceAdd, Nat.reduceMul, Nat.reduceEqDiff, Nat.reduceLT, Nat.reduceLeDiff, reduceCtorEq, QF, *]))
        refine CallG.frz (k_r06_filled s.V (insDot d s.More) (by omega) hv hmem) (by assumption) (by rw [List.map_cons, List.map_nil, frz_dr1]) (by rw [hg]; simp [encDots, encDotsR, encL]; exact .refl _) ?_
        repeat' (first
          | (with_reducible refine condD (fun _ => ?_) (fun _ => ?_)) <;> try (exfalso; omega)
          | (with_reducible refine condB (fun _ => ?_) (fun _ => ?_))
          | (with_reducible refine guardD (fun _ => ?_) (fun _ => ?_)) <;> try (exfalso; omega)
          | (with_reducible refine guardB (fun _ => ?_) (fun _ => ?_))
          | (with_reducible refine app_row (by assumption) src_lst (by simp only [List.length_map, List.length_append, List.length_cons, List.length_nil]; omega) (by simp only [List.length_map, List.length_append, List.length_cons, List.length_nil]; omega) (fun _ _ => ?_))
          | (simp -dsimp (disch := first | omega | assumption) only [↓PB, ↓reduceIte, QB, QC, QD, QE, Nat.reduceAdd, Nat.reduceMul, Nat.reduceEqDiff, Nat.reduceLT, Nat.reduceLeDiff, reduceCtorEq, QF, *]))
        exact RetG.same ⟨by rw [t4, hp, hg], rfl⟩
      · simp only [if_true, List.append_nil] at hg hm
        repeat' (first
          | (with_reducible refine condD (fun _ => ?_) (fun _ => ?_)) <;> try (exfalso; omega)
          | (with_reducible refine condB (fun _ => ?_) (fun _ => ?_))
          | (with_reducible refine guardD (fun _ => ?_) (fun _ => ?_)) <;> try (exfalso; omega)
          | (with_reducible refine guardB (fun _ => ?_) (fun _ => ?_))
          | (with_reducible refine app_row (by assumption) src_lst (by simp only [List.length_map, List.length_append, List.length_cons, List.length_nil]; omega) (by simp only [List.length_map, List.length_append, List.length_cons, List.length_nil]; omega) (fun _ _ => ?_))
          | (simp -dsimp (disch := first | omega | assumption) only [↓PB, ↓reduceIte, QB, QC, QD, QE, Nat.reduceAdd, Nat.reduceMul, Nat.reduceEqDiff, Nat.reduceLT, Nat.reduceLeDiff, reduceCtorEq, QF, *]))
        refine CallG.frz (k_r06_filled s.V (insDot d s.More) (by omega) hv hmem) hc (by rw [List.map_cons, List.map_nil, frz_dr1]) (by rw [hg]; exact .refl _) ?_
        repeat' (first
          | (with_reducible refine condD (fun _ => ?_) (fun _ => ?_)) <;> try (exfalso; omega)
          | (with_reducible refine condB (fun _ => ?_) (fun _ => ?_))
          | (with_reducible refine guardD (fun _ => ?_) (fun _ => ?_)) <;> try (exfalso; omega)
          | (with_reducible refine guardB (fun _ => ?_) (fun _ => ?_))
          | (with_reducible refine app_row (by assumption) src_lst (by simp only [List.length_map, List.length_append, List.length_cons, List.length_nil]; omega) (by simp only [List.length_map, List.length_append, List.length_cons, List.length_nil]; omega) (fun _ _ => ?_))
          | (simp -dsimp (disch := first | omega | assumption) only [↓PB, ↓reduceIte, QB, QC, QD, QE, Nat.reduceAdd, Nat.reduceMul, Nat.reduceEqDiff, Nat.reduceLT, Nat.reduceLeDiff, reduceCtorEq, QF, *]))
        exact RetG.same ⟨by rw [t4, hp, hg], rfl⟩
  · exact RetG.same ⟨by simp [t4, dotsPut, *], rfl⟩

theorem fill1_len (s : Dots) (d : Dot) : (fill1 s d).More.length ≤ s.More.length + 1 := by
  unfold fill1; repeat' split
  all_goals simp
theorem filledD_len (v : Vec) (l : List Dot) : (filledD v l).More.length ≤ l.length := by
  have : ∀ (l : List Dot) (s : Dots), (l.foldl fill1 s).More.length ≤ s.More.length + l.length := by
    intro l
    induction l with
    | nil => intro s; simp
    | cons d l ih => intro s; have := ih (fill1 s d); have := fill1_len s d; simp only [List.foldl_cons, List.length_cons]; omega
  simpa [filledD] using this l ⟨v, []⟩
theorem dotsPut_len (s : Dots) (d : Dot) : (dotsPut s d).More.length ≤ s.More.length + 1 := by
  unfold dotsPut; split
  · omega
  · have := filledD_len s.V (insDot d s.More); rw [insDot_len] at this; exact this
abbrev okVec (v : Vec) : Prop := ∀ n, n < 16 → 0 ≤ v.at n ∧ v.at n ≤ 1048576
abbrev okD (s : Dots) : Prop := okVec s.V ∧ ∀ d ∈ s.More, dotRight d = true
theorem fill1_ok {s : Dots} {d : Dot} (h : okD s) (hd : dotRight d = true) : okD (fill1 s d) := by
  unfold fill1
  split
  · refine ⟨fun n hn => ?_, h.2⟩
    simp only
    rw [vset_at (dR_lt hd)]
    simp only [dotRight, decide_eq_true_eq] at hd
    split
    · omega
    · exact h.1 n hn
  · split
    · exact ⟨h.1, fun y hy => (List.mem_append.1 hy).elim (h.2 y) (fun hy => by simp at hy; exact hy ▸ hd)⟩
    · exact h
theorem foldl_ok : ∀ {l : List Dot} {s : Dots}, okD s → (∀ d ∈ l, dotRight d = true) → okD (l.foldl fill1 s)
  | [], _, h, _ => h
  | d :: l, s, h, hd => foldl_ok (s := fill1 s d) (l := l) (fill1_ok h (hd d (by simp))) fun y hy => hd y (by simp [hy])
theorem dotsPut_ok {s : Dots} {d : Dot} (h : okD s) : okD (dotsPut s d) := by
  unfold dotsPut
  split
  · exact h
  · rename_i hn
    have hd : dotRight d = true := by
      cases hx : dotRight d with
      | true => rfl
      | false => exact absurd (.inl hx) hn
    exact foldl_ok ⟨h.1, by simp⟩ fun y hy => by
      rcases insDot_mem hy with rfl | hy
      · exact hd
      · exact h.2 _ hy
theorem dots0_ok : okD dots0 := ⟨by
  have : ∀ n, n < 16 → vec0.at n = 0 := by decide
  intro n hn; have := this n hn; simp only [dots0]; omega, by simp [dots0]⟩

theorem k_r22_Known (l : List Txn) (hl : l.length ≤ 100000) : Pure prog 120 [encL 6 encTxn l] (encDots (knownR l)) := by
  refine wp120 fun σ => ?_
  unfold c120
  simp -dsimp (disch := first | omega | assumption) only [↓PB, ↓reduceIte, QB, QC, QD, QE, Nat.reduceAdd, Nat.reduceMul, Nat.reduceEqDiff, Nat.reduceLT, Nat.reduceLeDiff, reduceCtorEq, QF]
  refine loop_pl l.length (fun i e => ∃ s : Dots, e 4 = .int i ∧ e 3 = .box 2 (encDots s) ∧ (l.take i).foldl (fun s t => dotsPut s t.D) dots0 = s ∧ s.More.length ≤ i ∧ okD s) 0 3 2 (encDotsR vec0 .nils) (encDots dots0) (by omega) (by simp -dsimp (disch := first | omega | assumption) only [↓PB, ↓reduceIte, QB, QC, QD, QE, Nat.reduceAdd, Nat.reduceMul, Nat.reduceEqDiff, Nat.reduceLT, Nat.reduceLeDiff, reduceCtorEq, QF, *]) .dr0 id (by decide) ⟨dots0, by simp -dsimp (disch := first | omega | assumption) only [↓PB, ↓reduceIte, QB, QC, QD, QE, Nat.reduceAdd, Nat.reduceMul, Nat.reduceEqDiff, Nat.reduceLT, Nat.reduceLeDiff, reduceCtorEq, QF, *] <;> rfl, by simp -dsimp (disch := first | omega | assumption) only [↓PB, ↓reduceIte, QB, QC, QD, QE, Nat.reduceAdd, Nat.reduceMul, Nat.reduceEqDiff, Nat.reduceLT, Nat.reduceLeDiff, reduceCtorEq, QF, *], rfl, by simp [dots0], dots0_ok⟩ ?_
  rintro i e n hi ha ⟨s, h4, h3, hg, hm, hok⟩
  have h0 := ha 0 (by decide)
  have h2 := ha 2 (by decide)
  simp -dsimp (disch := first | omega | assumption) only [↓PB, ↓reduceIte, QB, QC, QD, QE, Nat.reduceAdd, Nat.reduceMul, Nat.reduceEqDiff, Nat.reduceLT, Nat.reduceLeDiff, reduceCtorEq, QF, *] at h0 h2
  clear ha
  unfold c120l0
  by_cases hlt : i < l.length
  · repeat' (first
      | (with_reducible refine CallG.pure (k_r06_Put s _ (by omega) hok.1 hok.2) ?_)
      | (with_reducible refine CallQ.pure (k_r06_Put s _ (by omega) hok.1 hok.2) ?_)
      | (with_reducible refine condD (fun _ => ?_) (fun _ => ?_)) <;> try (exfalso; omega)
      | (with_reducible refine condB (fun _ => ?_) (fun _ => ?_))
      | (with_reducible refine guardD (fun _ => ?_) (fun _ => ?_)) <;> try (exfalso; omega)
      | (with_reducible refine guardB (fun _ => ?_) (fun _ => ?_))
      | (with_reducible refine app_row (by assumption) src_lst (by simp only [List.length_map, List.length_append, List.length_cons, List.length_nil]; omega) (by simp only [List.length_map, List.length_append, List.length_cons, List.length_nil]; omega) (fun _ _ => ?_))
      | (simp -dsimp (disch := first | omega | assumption) only [↓PB, ↓reduceIte, QB, QC, QD, QE, Nat.reduceAdd, Nat.reduceMul, Nat.reduceEqDiff, Nat.reduceLT, Nat.reduceLeDiff, reduceCtorEq, QF, *]))
    refine ⟨dotsPut s l[i].D, by simp, rfl, ?_, by have := dotsPut_len s l[i].D; omega, dotsPut_ok hok⟩
    rw [List.take_succ_eq_append_getElem hlt, List.foldl_append, hg]; rfl
  · repeat' (first
      | (with_reducible refine condD (fun _ => ?_) (fun _ => ?_)) <;> try (exfalso; omega)
      | (with_reducible refine condB (fun _ => ?_) (fun _ => ?_))
      | (with_reducible refine guardD (fun _ => ?_) (fun _ => ?_)) <;> try (exfalso; omega)
      | (with_reducible refine guardB (fun _ => ?_) (fun _ => ?_))
      | (with_reducible refine app_row (by assumption) src_lst (by simp only [List.length_map, List.length_append, List.length_cons, List.length_nil]; omega) (by simp only [List.length_map, List.length_append, List.length_cons, List.length_nil]; omega) (fun _ _ => ?_))
      | (simp -dsimp (disch := first | omega | assumption) only [↓PB, ↓reduceIte, QB, QC, QD, QE, Nat.reduceAdd, Nat.reduceMul, Nat.reduceEqDiff, Nat.reduceLT, Nat.reduceLeDiff, reduceCtorEq, QF, *]))
    rw [List.take_of_length_le (by omega)] at hg
    exact RetG.same ⟨by rw [t4, knownR, hg], rfl⟩

end Go.Av

namespace Go.Av
open Go.Proofs.Tryz
set_option maxRecDepth 100000
set_option linter.unusedSimpArgs false
set_option linter.unusedVariables false

/- r22.Right -/
def c38l0 : ICode :=
  .seq (.seq (.region 5 [⟨(some 28), .mov (.t 3), none⟩,
    ⟨(some 29), .faddr (some 1) 0 (.b 1), none⟩,
    ⟨(some 30), .load (some 1) 1 false (.t 29), none⟩,
    ⟨(some 31), .len (.t 30), none⟩,
    ⟨(some 32), .bin .lss (.t 28) (.t 31), none⟩]) <|
  .cond (.t 32) (.skip) (.exit 0)) <|
  .seq (.block 1 (.seq (.region 7 [⟨(some 35), .faddr (some 1) 0 (.b 1), none⟩,
    ⟨(some 36), .load (some 1) 1 false (.t 35), none⟩,
    ⟨(some 37), .mov (.t 3), none⟩,
    ⟨(some 38), .iaddrS 6 (.t 36) (.t 37), none⟩,
    ⟨(some 39), .load none 6 true (.t 38), none⟩,
    ⟨(some 40), .call (.c (.clo 28 [])) [(.t 39)], none⟩,
    ⟨(some 41), .bin .neq (.t 40) (.c (.int 0)), none⟩]) <|
  .cond (.t 41) (.seq (.region 1 [⟨(some 2), .mov (.c (.bool false)), none⟩]) <|
  .ret) (.skip))) <|
  .region 3 [⟨(some 33), .mov (.t 3), none⟩,
    ⟨(some 34), .bin .add (.t 33) (.c (.int 1)), none⟩,
    ⟨(some 3), .mov (.t 34), none⟩]
def c38l1 : ICode :=
  .seq (.seq (.region 7 [⟨(some 52), .mov (.t 5), none⟩,
    ⟨(some 53), .mov (.t 4), none⟩,
    ⟨(some 54), .faddr (some 1) 36 (.b 1), none⟩,
    ⟨(some 55), .iaddrA (some 1) 8 1 (.t 54) (.t 53), none⟩,
    ⟨(some 56), .load (some 1) 1 false (.t 55), none⟩,
    ⟨(some 57), .len (.t 56), none⟩,
    ⟨(some 58), .bin .lss (.t 52) (.t 57), none⟩]) <|
  .cond (.t 58) (.skip) (.exit 4)) <|
  .seq (.block 5 (.seq (.region 9 [⟨(some 61), .mov (.t 4), none⟩,
    ⟨(some 62), .faddr (some 1) 36 (.b 1), none⟩,
    ⟨(some 63), .iaddrA (some 1) 8 1 (.t 62) (.t 61), none⟩,
    ⟨(some 64), .load (some 1) 1 false (.t 63), none⟩,
    ⟨(some 65), .mov (.t 5), none⟩,
    ⟨(some 66), .iaddrS 2 (.t 64) (.t 65), none⟩,
    ⟨(some 67), .load none 2 true (.t 66), none⟩,
    ⟨(some 68), .call (.c (.clo 96 [])) [(.t 67)], none⟩,
    ⟨(some 69), .un .not (.t 68), none⟩]) <|
  .cond (.t 69) (.seq (.region 1 [⟨(some 2), .mov (.c (.bool false)), none⟩]) <|
  .ret) (.skip))) <|
  .region 3 [⟨(some 59), .mov (.t 5), none⟩,
    ⟨(some 60), .bin .add (.t 59) (.c (.int 1)), none⟩,
    ⟨(some 5), .mov (.t 60), none⟩]
def c38l2 : ICode :=
  .seq (.seq (.region 2 [⟨(some 42), .mov (.t 4), none⟩,
    ⟨(some 43), .bin .lss (.t 42) (.c (.int 8)), none⟩]) <|
  .cond (.t 43) (.skip) (.exit 2)) <|
  .seq (.block 3 (.seq (.seq (.region 6 [⟨(some 46), .mov (.t 4), none⟩,
    ⟨(some 47), .faddr (some 1) 36 (.b 1), none⟩,
    ⟨(some 48), .iaddrA (some 1) 8 1 (.t 47) (.t 46), none⟩,
    ⟨(some 49), .load (some 1) 1 false (.t 48), none⟩,
    ⟨(some 50), .len (.t 49), none⟩,
    ⟨(some 51), .bin .gtr (.t 50) (.c (.int 1000)), none⟩]) <|
  .cond (.t 51) (.seq (.region 1 [⟨(some 2), .mov (.c (.bool false)), none⟩]) <|
  .ret) (.skip)) <|
  .seq (.region 1 [⟨(some 5), .mov (.c (.int 0)), none⟩]) <|
  .block 4 (.loop c38l1))) <|
  .region 3 [⟨(some 44), .mov (.t 4), none⟩,
    ⟨(some 45), .bin .add (.t 44) (.c (.int 1)), none⟩,
    ⟨(some 4), .mov (.t 45), none⟩]
def c38 : ICode :=
  .seq (.region 2 [⟨(some 1), .bbox 0 (.t 0), none⟩,
    ⟨(some 2), .mov (.c (.bool false)), none⟩]) <|
  .seq (.seq (.region 22 [⟨(some 6), .faddr (some 1) 0 (.b 1), none⟩,
    ⟨(some 7), .load (some 1) 1 false (.t 6), none⟩,
    ⟨(some 8), .len (.t 7), none⟩,
    ⟨(some 9), .bin .gtr (.t 8) (.c (.int 1000)), none⟩,
    ⟨(some 10), .mov (.t 9), none⟩,
    ⟨(some 11), .faddr (some 1) 0 (.b 1), (some (10, false))⟩,
    ⟨(some 12), .load (some 1) 1 false (.t 11), (some (10, false))⟩,
    ⟨(some 13), .call (.c (.clo 118 [])) [(.t 12)], (some (10, false))⟩,
    ⟨(some 14), .un .not (.t 13), (some (10, false))⟩,
    ⟨(some 15), .pick (.t 10) (.c (.bool true)) (.t 14), none⟩,
    ⟨(some 16), .mov (.t 15), none⟩,
    ⟨(some 17), .faddr (some 1) 1 (.b 1), (some (16, false))⟩,
    ⟨(some 18), .load (some 1) 1 false (.t 17), (some (16, false))⟩,
    ⟨(some 19), .call (.c (.clo 98 [])) [(.t 18)], (some (16, false))⟩,
    ⟨(some 20), .un .not (.t 19), (some (16, false))⟩,
    ⟨(some 21), .pick (.t 16) (.c (.bool true)) (.t 20), none⟩,
    ⟨(some 22), .mov (.t 21), none⟩,
    ⟨(some 23), .faddr (some 1) 19 (.b 1), (some (22, false))⟩,
    ⟨(some 24), .load (some 1) 17 true (.t 23), (some (22, false))⟩,
    ⟨(some 25), .call (.c (.clo 119 [])) [(.t 24)], (some (22, false))⟩,
    ⟨(some 26), .un .not (.t 25), (some (22, false))⟩,
    ⟨(some 27), .pick (.t 22) (.c (.bool true)) (.t 26), none⟩]) <|
  .cond (.t 27) (.seq (.region 1 [⟨(some 2), .mov (.c (.bool false)), none⟩]) <|
  .ret) (.skip)) <|
  .seq (.seq (.region 1 [⟨(some 3), .mov (.c (.int 0)), none⟩]) <|
  .block 0 (.loop c38l0)) <|
  .seq (.seq (.region 1 [⟨(some 4), .mov (.c (.int 0)), none⟩]) <|
  .block 2 (.loop c38l2)) <|
  .seq (.region 12 [⟨(some 70), .faddr (some 1) 2 (.b 1), none⟩,
    ⟨(some 71), .load (some 1) 17 true (.t 70), none⟩,
    ⟨(some 72), .call (.c (.clo 119 [])) [(.t 71)], none⟩,
    ⟨(some 73), .mov (.t 72), none⟩,
    ⟨(some 74), .faddr (some 1) 2 (.b 1), (some (73, true))⟩,
    ⟨(some 75), .load (some 1) 17 true (.t 74), (some (73, true))⟩,
    ⟨(some 76), .faddr (some 1) 0 (.b 1), (some (73, true))⟩,
    ⟨(some 77), .load (some 1) 1 false (.t 76), (some (73, true))⟩,
    ⟨(some 78), .call (.c (.clo 120 [])) [(.t 77)], (some (73, true))⟩,
    ⟨(some 79), .call (.c (.clo 113 [])) [(.t 75), (.t 78)], (some (73, true))⟩,
    ⟨(some 80), .pick (.t 73) (.t 79) (.c (.bool false)), none⟩,
    ⟨(some 2), .mov (.t 80), none⟩]) <|
  .ret
def ir38 : IFn := ⟨81, [1], 1, [.tmp 2], c38⟩
theorem ok38 : compFn prog [1] [] f38 = some ir38 := by kernel_rfl
theorem wp38 {a0 : AV} {r : AV} (H : ∀ σ, WpI prog c38 (retQ [.tmp 2] fun v s => v = r ∧ s = σ) (argE [a0]) 0 σ) : Pure prog 38 [a0] r := @pure_of_wp prog hm 38 f38 [1] [] ir38 [a0] r func38 ok38 (Nat.le_of_ble_eq_true rfl) H
theorem wa38 {a0 : AV} {σ : Heap} {R : AV → Heap → Prop} (H : WpI prog c38 (retQ [.tmp 2] R) (argE [a0]) 0 σ) : CallsA prog 38 [a0] σ R := @callsA_of_wp prog [1] hm 38 f38 [] ir38 [a0] σ R func38 ok38 (Nat.le_of_ble_eq_true rfl) H
/- r22.Good -/
def c14 : ICode :=
  .seq (.region 2 [⟨(some 1), .bbox 0 (.t 0), none⟩,
    ⟨(some 2), .mov (.c (.bool false)), none⟩]) <|
  .seq (.region 7 [⟨(some 3), .load (some 1) 44 true (.b 1), none⟩,
    ⟨(some 4), .call (.c (.clo 74 [])) [(.t 3)], none⟩,
    ⟨(some 5), .mov (.t 4), none⟩,
    ⟨(some 6), .load (some 1) 44 true (.b 1), (some (5, true))⟩,
    ⟨(some 7), .call (.c (.clo 38 [])) [(.t 6)], (some (5, true))⟩,
    ⟨(some 8), .pick (.t 5) (.t 7) (.c (.bool false)), none⟩,
    ⟨(some 2), .mov (.t 8), none⟩]) <|
  .ret
def ir14 : IFn := ⟨9, [1], 1, [.tmp 2], c14⟩
theorem ok14 : compFn prog [1] [] f14 = some ir14 := by kernel_rfl
theorem wp14 {a0 : AV} {r : AV} (H : ∀ σ, WpI prog c14 (retQ [.tmp 2] fun v s => v = r ∧ s = σ) (argE [a0]) 0 σ) : Pure prog 14 [a0] r := @pure_of_wp prog hm 14 f14 [1] [] ir14 [a0] r func14 ok14 (Nat.le_of_ble_eq_true rfl) H
theorem wa14 {a0 : AV} {σ : Heap} {R : AV → Heap → Prop} (H : WpI prog c14 (retQ [.tmp 2] R) (argE [a0]) 0 σ) : CallsA prog 14 [a0] σ R := @callsA_of_wp prog [1] hm 14 f14 [] ir14 [a0] σ R func14 ok14 (Nat.le_of_ble_eq_true rfl) H


theorem dotsRight_ok {s : Dots} (h : dotsRight s = true) : okD s := by
  simp only [dotsRight, vecRight, Bool.and_eq_true, List.all_eq_true, List.mem_range, decide_eq_true_eq] at h
  exact ⟨fun n hn => h.1.1 n hn, fun d hd => by have := h.2.1 d hd; simp only [dotIn, Bool.and_eq_true] at this; exact this.1⟩

theorem k_r22_Right (s : State) (hs : smState s) : Pure prog 38 [encState s] (.bool (stateRight s)) := by
  obtain ⟨a1, a2, a3, a4, a5, a6⟩ := hs
  refine wp38 fun σ => ?_
  unfold c38
  simp -dsimp (disch := first | omega | assumption) only [↓PB, ↓reduceIte, QB, QC, QD, QE, Nat.reduceAdd, Nat.reduceMul, Nat.reduceEqDiff, Nat.reduceLT, Nat.reduceLeDiff, reduceCtorEq, QF]
  repeat' (first
    | (with_reducible refine CallG.pure (k_r12_Rises _ (by omega)) ?_)
    | (with_reducible refine CallQ.pure (k_r12_Rises _ (by omega)) ?_)
    | (with_reducible refine CallG.pure (k_r08_Right _ (by omega)) ?_)
    | (with_reducible refine CallQ.pure (k_r08_Right _ (by omega)) ?_)
    | (with_reducible refine CallG.pure (k_r06_Right _ (by omega)) ?_)
    | (with_reducible refine CallQ.pure (k_r06_Right _ (by omega)) ?_)
    | (with_reducible refine condD (fun _ => ?_) (fun _ => ?_)) <;> try (exfalso; omega)
    | (with_reducible refine condB (fun _ => ?_) (fun _ => ?_))
    | (with_reducible refine guardD (fun _ => ?_) (fun _ => ?_)) <;> try (exfalso; omega)
    | (with_reducible refine guardB (fun _ => ?_) (fun _ => ?_))
    | (with_reducible refine app_row (by assumption) src_lst (by simp only [List.length_map, List.length_append, List.length_cons, List.length_nil]; omega) (by simp only [List.length_map, List.length_append, List.length_cons, List.length_nil]; omega) (fun _ _ => ?_))
    | (simp -dsimp (disch := first | omega | assumption) only [↓PB, ↓reduceIte, QB, QC, QD, QE, Nat.reduceAdd, Nat.reduceMul, Nat.reduceEqDiff, Nat.reduceLT, Nat.reduceLeDiff, reduceCtorEq, QF, *]))
  all_goals try exact RetG.same ⟨by simp [t4, stateRight, *] <;> omega, rfl⟩
  refine loop_p s.Txns.length (fun i e => e 3 = .int i ∧ (s.Txns.all fun t => decide (txnCheck t = 0)) = ((s.Txns.drop i).all fun t => decide (txnCheck t = 0))) 0 (by omega) ⟨by simp -dsimp (disch := first | omega | assumption) only [↓PB, ↓reduceIte, QB, QC, QD, QE, Nat.reduceAdd, Nat.reduceMul, Nat.reduceEqDiff, Nat.reduceLT, Nat.reduceLeDiff, reduceCtorEq, QF, *] <;> rfl, by simp⟩ ?_
  rintro i e n hi ha ⟨h3, hg⟩
  have h1 := ha 1 (by decide)
  simp -dsimp (disch := first | omega | assumption) only [↓PB, ↓reduceIte, QB, QC, QD, QE, Nat.reduceAdd, Nat.reduceMul, Nat.reduceEqDiff, Nat.reduceLT, Nat.reduceLeDiff, reduceCtorEq, QF, *] at h1
  clear ha
  unfold c38l0
  repeat' (first
    | (with_reducible refine CallG.pure (k_r12_Check _ (a2 _ (List.getElem_mem _))) ?_)
    | (with_reducible refine CallQ.pure (k_r12_Check _ (a2 _ (List.getElem_mem _))) ?_)
    | (with_reducible refine condD (fun _ => ?_) (fun _ => ?_)) <;> try (exfalso; omega)
    | (with_reducible refine condB (fun _ => ?_) (fun _ => ?_))
    | (with_reducible refine guardD (fun _ => ?_) (fun _ => ?_)) <;> try (exfalso; omega)
    | (with_reducible refine guardB (fun _ => ?_) (fun _ => ?_))
    | (with_reducible refine app_row (by assumption) src_lst (by simp only [List.length_map, List.length_append, List.length_cons, List.length_nil]; omega) (by simp only [List.length_map, List.length_append, List.length_cons, List.length_nil]; omega) (fun _ _ => ?_))
    | (simp -dsimp (disch := first | omega | assumption) only [↓PB, ↓reduceIte, QB, QC, QD, QE, Nat.reduceAdd, Nat.reduceMul, Nat.reduceEqDiff, Nat.reduceLT, Nat.reduceLeDiff, reduceCtorEq, QF, *]))
  · exact ⟨by simp, by rw [all_step (by assumption)]; simp [*]⟩
  · rw [all_step (by assumption)] at hg
    exact RetG.same ⟨by rw [t4, stateRight, hg]; simp [*], rfl⟩
  rw [all_end (by assumption)] at hg
  refine loop_p 8 (fun i e => e 4 = .int i ∧ ((List.range 8).all fun u => decide ((s.Redo.at u).length ≤ 1000) && (s.Redo.at u).all dotRight) = ((List.range' i (8 - i)).all fun u => decide ((s.Redo.at u).length ≤ 1000) && (s.Redo.at u).all dotRight)) 0 (by omega) ⟨by simp -dsimp (disch := first | omega | assumption) only [↓PB, ↓reduceIte, QB, QC, QD, QE, Nat.reduceAdd, Nat.reduceMul, Nat.reduceEqDiff, Nat.reduceLT, Nat.reduceLeDiff, reduceCtorEq, QF, *] <;> rfl, by rw [List.range_eq_range']⟩ ?_
  rintro u e2 n2 hu hb ⟨g4, hq⟩
  have g1 := hb 1 (by decide)
  simp -dsimp (disch := first | omega | assumption) only [↓PB, ↓reduceIte, QB, QC, QD, QE, Nat.reduceAdd, Nat.reduceMul, Nat.reduceEqDiff, Nat.reduceLT, Nat.reduceLeDiff, reduceCtorEq, QF, *] at g1
  clear hb
  unfold c38l2
  by_cases h8 : u < 8
  · rw [range_step h8, List.all_cons] at hq
    have hru := a6 u h8
    repeat' (first
      | (with_reducible refine condD (fun _ => ?_) (fun _ => ?_)) <;> try (exfalso; omega)
      | (with_reducible refine condB (fun _ => ?_) (fun _ => ?_))
      | (with_reducible refine guardD (fun _ => ?_) (fun _ => ?_)) <;> try (exfalso; omega)
      | (with_reducible refine guardB (fun _ => ?_) (fun _ => ?_))
      | (with_reducible refine app_row (by assumption) src_lst (by simp only [List.length_map, List.length_append, List.length_cons, List.length_nil]; omega) (by simp only [List.length_map, List.length_append, List.length_cons, List.length_nil]; omega) (fun _ _ => ?_))
      | (simp -dsimp (disch := first | omega | assumption) only [↓PB, ↓reduceIte, QB, QC, QD, QE, Nat.reduceAdd, Nat.reduceMul, Nat.reduceEqDiff, Nat.reduceLT, Nat.reduceLeDiff, reduceCtorEq, QF, *]))
    · exact RetG.same ⟨by rw [t4, stateRight, hq]; simp [*]; omega, rfl⟩
    refine loop_p (s.Redo.at u).length (fun k e => e 5 = .int k ∧ (s.Redo.at u).all dotRight = ((s.Redo.at u).drop k).all dotRight) 0 (by omega) ⟨by simp -dsimp (disch := first | omega | assumption) only [↓PB, ↓reduceIte, QB, QC, QD, QE, Nat.reduceAdd, Nat.reduceMul, Nat.reduceEqDiff, Nat.reduceLT, Nat.reduceLeDiff, reduceCtorEq, QF, *] <;> rfl, by simp⟩ ?_
    rintro k e3 n3 hk hc ⟨f5, hr⟩
    have f1 := hc 1 (by decide)
    have f4 := hc 4 (by decide)
    simp -dsimp (disch := first | omega | assumption) only [↓PB, ↓reduceIte, QB, QC, QD, QE, Nat.reduceAdd, Nat.reduceMul, Nat.reduceEqDiff, Nat.reduceLT, Nat.reduceLeDiff, reduceCtorEq, QF, *] at f1 f4
    clear hc
    unfold c38l1
    repeat' (first
      | (with_reducible refine CallG.pure (k_r04_Right _) ?_)
      | (with_reducible refine CallQ.pure (k_r04_Right _) ?_)
      | (with_reducible refine condD (fun _ => ?_) (fun _ => ?_)) <;> try (exfalso; omega)
      | (with_reducible refine condB (fun _ => ?_) (fun _ => ?_))
      | (with_reducible refine guardD (fun _ => ?_) (fun _ => ?_)) <;> try (exfalso; omega)
      | (with_reducible refine guardB (fun _ => ?_) (fun _ => ?_))
      | (with_reducible refine app_row (by assumption) src_lst (by simp only [List.length_map, List.length_append, List.length_cons, List.length_nil]; omega) (by simp only [List.length_map, List.length_append, List.length_cons, List.length_nil]; omega) (fun _ _ => ?_))
      | (simp -dsimp (disch := first | omega | assumption) only [↓PB, ↓reduceIte, QB, QC, QD, QE, Nat.reduceAdd, Nat.reduceMul, Nat.reduceEqDiff, Nat.reduceLT, Nat.reduceLeDiff, reduceCtorEq, QF, *]))
    · exact ⟨by simp, by rw [all_step (by assumption)]; simp [*]⟩
    · rw [all_step (by assumption)] at hr
      exact RetG.same ⟨by rw [t4, stateRight, hq, hr]; simp [*], rfl⟩
    · rw [all_end (by assumption)] at hr
      refine ⟨by simp, ?_⟩
      try rw [hq]
      try rw [range_step h8, List.all_cons]
      try rw [all_end (by assumption)]
      try rw [hr]
      rw [decide_eq_true (by omega)]; try simp
  · rw [show 8 - u = 0 by omega, List.range'_zero, List.all_nil] at hq
    repeat' (first
      | (with_reducible refine CallG.pure (k_r06_Right _ (by omega)) ?_)
      | (with_reducible refine CallQ.pure (k_r06_Right _ (by omega)) ?_)
      | (with_reducible refine CallG.pure (k_r22_Known _ (by omega)) ?_)
      | (with_reducible refine CallQ.pure (k_r22_Known _ (by omega)) ?_)
      | (with_reducible refine CallG.pure (k_r06_Same _ _ (by omega)) ?_)
      | (with_reducible refine CallQ.pure (k_r06_Same _ _ (by omega)) ?_)
      | (with_reducible refine condD (fun _ => ?_) (fun _ => ?_)) <;> try (exfalso; omega)
      | (with_reducible refine condB (fun _ => ?_) (fun _ => ?_))
      | (with_reducible refine guardD (fun _ => ?_) (fun _ => ?_)) <;> try (exfalso; omega)
      | (with_reducible refine guardB (fun _ => ?_) (fun _ => ?_))
      | (with_reducible refine app_row (by assumption) src_lst (by simp only [List.length_map, List.length_append, List.length_cons, List.length_nil]; omega) (by simp only [List.length_map, List.length_append, List.length_cons, List.length_nil]; omega) (fun _ _ => ?_))
      | (simp -dsimp (disch := first | omega | assumption) only [↓PB, ↓reduceIte, QB, QC, QD, QE, Nat.reduceAdd, Nat.reduceMul, Nat.reduceEqDiff, Nat.reduceLT, Nat.reduceLeDiff, reduceCtorEq, QF, *]))
    all_goals exact RetG.same ⟨by rw [t4, stateRight, hq, hg]; simp [*] <;> omega, rfl⟩

theorem k_r22_Good (s : State) (hs : okState s) : Pure prog 14 [encState s] (.bool (stateGood s)) := by
  refine wp14 fun σ => ?_
  unfold c14
  simp -dsimp (disch := first | omega | assumption) only [↓PB, ↓reduceIte, QB, QC, QD, QE, Nat.reduceAdd, Nat.reduceMul, Nat.reduceEqDiff, Nat.reduceLT, Nat.reduceLeDiff, reduceCtorEq, QF]
  refine CallG.pure (k_r22_Short s hs.1 fun t ht => (hs.2.1 t ht).ok) ?_
  by_cases h : stateShort s = true
  · repeat' (first
      | (with_reducible refine CallG.pure (k_r22_Right s (smState_of h)) ?_)
      | (with_reducible refine CallQ.pure (k_r22_Right s (smState_of h)) ?_)
      | (with_reducible refine condD (fun _ => ?_) (fun _ => ?_)) <;> try (exfalso; omega)
      | (with_reducible refine condB (fun _ => ?_) (fun _ => ?_))
      | (with_reducible refine guardD (fun _ => ?_) (fun _ => ?_)) <;> try (exfalso; omega)
      | (with_reducible refine guardB (fun _ => ?_) (fun _ => ?_))
      | (with_reducible refine app_row (by assumption) src_lst (by simp only [List.length_map, List.length_append, List.length_cons, List.length_nil]; omega) (by simp only [List.length_map, List.length_append, List.length_cons, List.length_nil]; omega) (fun _ _ => ?_))
      | (simp -dsimp (disch := first | omega | assumption) only [↓PB, ↓reduceIte, QB, QC, QD, QE, Nat.reduceAdd, Nat.reduceMul, Nat.reduceEqDiff, Nat.reduceLT, Nat.reduceLeDiff, reduceCtorEq, QF, *]))
    exact RetG.same ⟨by simp [t4, stateGood, h], rfl⟩
  · simp only [Bool.not_eq_true] at h
    repeat' (first
      | (with_reducible refine condD (fun _ => ?_) (fun _ => ?_)) <;> try (exfalso; omega)
      | (with_reducible refine condB (fun _ => ?_) (fun _ => ?_))
      | (with_reducible refine guardD (fun _ => ?_) (fun _ => ?_)) <;> try (exfalso; omega)
      | (with_reducible refine guardB (fun _ => ?_) (fun _ => ?_))
      | (with_reducible refine app_row (by assumption) src_lst (by simp only [List.length_map, List.length_append, List.length_cons, List.length_nil]; omega) (by simp only [List.length_map, List.length_append, List.length_cons, List.length_nil]; omega) (fun _ _ => ?_))
      | (simp -dsimp (disch := first | omega | assumption) only [↓PB, ↓reduceIte, QB, QC, QD, QE, Nat.reduceAdd, Nat.reduceMul, Nat.reduceEqDiff, Nat.reduceLT, Nat.reduceLeDiff, reduceCtorEq, QF, *]))
    exact RetG.same ⟨by simp [t4, stateGood, h], rfl⟩
end Go.Av

namespace Go.Av
open Go.Proofs.Tryz
set_option maxRecDepth 100000
set_option linter.unusedSimpArgs false
set_option linter.unusedVariables false

/- cmp.isNaN[int] -/
def c245 : ICode :=
  .seq (.region 1 [⟨(some 2), .mov (.c (.bool false)), none⟩]) <|
  .seq (.region 4 [⟨(some 3), .mov (.t 0), none⟩,
    ⟨(some 4), .mov (.t 0), none⟩,
    ⟨(some 5), .bin .neq (.t 3) (.t 4), none⟩,
    ⟨(some 2), .mov (.t 5), none⟩]) <|
  .ret
def ir245 : IFn := ⟨6, [], 1, [.tmp 2], c245⟩
theorem ok245 : compFn prog [] [] f245 = some ir245 := by kernel_rfl
theorem wp245 {a0 : AV} {r : AV} (H : ∀ σ, WpI prog c245 (retQ [.tmp 2] fun v s => v = r ∧ s = σ) (argE [a0]) 0 σ) : Pure prog 245 [a0] r := @pure_of_wp prog hm 245 f245 [] [] ir245 [a0] r func245 ok245 (Nat.le_of_ble_eq_true rfl) H
theorem wa245 {a0 : AV} {σ : Heap} {R : AV → Heap → Prop} (H : WpI prog c245 (retQ [.tmp 2] R) (argE [a0]) 0 σ) : CallsA prog 245 [a0] σ R := @callsA_of_wp prog [] hm 245 f245 [] ir245 [a0] σ R func245 ok245 (Nat.le_of_ble_eq_true rfl) H
/- cmp.Compare[int] -/
def c177 : ICode :=
  .seq (.region 1 [⟨(some 4), .mov (.c (.int 0)), none⟩]) <|
  .seq (.region 3 [⟨(some 7), .mov (.t 0), none⟩,
    ⟨(some 8), .call (.c (.clo 245 [])) [(.t 7)], none⟩,
    ⟨(some 5), .mov (.t 8), none⟩]) <|
  .seq (.region 3 [⟨(some 9), .mov (.t 1), none⟩,
    ⟨(some 10), .call (.c (.clo 245 [])) [(.t 9)], none⟩,
    ⟨(some 6), .mov (.t 10), none⟩]) <|
  .seq (.seq (.region 1 [⟨(some 11), .mov (.t 5), none⟩]) <|
  .cond (.t 11) (.seq (.seq (.region 1 [⟨(some 12), .mov (.t 6), none⟩]) <|
  .cond (.t 12) (.seq (.region 1 [⟨(some 4), .mov (.c (.int 0)), none⟩]) <|
  .ret) (.skip)) <|
  .seq (.region 1 [⟨(some 4), .mov (.c (.int (-1))), none⟩]) <|
  .ret) (.skip)) <|
  .seq (.seq (.region 1 [⟨(some 13), .mov (.t 6), none⟩]) <|
  .cond (.t 13) (.seq (.region 1 [⟨(some 4), .mov (.c (.int 1)), none⟩]) <|
  .ret) (.skip)) <|
  .seq (.seq (.region 3 [⟨(some 14), .mov (.t 0), none⟩,
    ⟨(some 15), .mov (.t 1), none⟩,
    ⟨(some 16), .bin .lss (.t 14) (.t 15), none⟩]) <|
  .cond (.t 16) (.seq (.region 1 [⟨(some 4), .mov (.c (.int (-1))), none⟩]) <|
  .ret) (.skip)) <|
  .seq (.seq (.region 3 [⟨(some 17), .mov (.t 0), none⟩,
    ⟨(some 18), .mov (.t 1), none⟩,
    ⟨(some 19), .bin .gtr (.t 17) (.t 18), none⟩]) <|
  .cond (.t 19) (.seq (.region 1 [⟨(some 4), .mov (.c (.int 1)), none⟩]) <|
  .ret) (.skip)) <|
  .seq (.region 1 [⟨(some 4), .mov (.c (.int 0)), none⟩]) <|
  .ret
def ir177 : IFn := ⟨20, [], 2, [.tmp 4], c177⟩
theorem ok177 : compFn prog [] [] f177 = some ir177 := by kernel_rfl
theorem wp177 {a0 a1 : AV} {r : AV} (H : ∀ σ, WpI prog c177 (retQ [.tmp 4] fun v s => v = r ∧ s = σ) (argE [a0, a1]) 0 σ) : Pure prog 177 [a0, a1] r := @pure_of_wp prog hm 177 f177 [] [] ir177 [a0, a1] r func177 ok177 (Nat.le_of_ble_eq_true rfl) H
theorem wa177 {a0 a1 : AV} {σ : Heap} {R : AV → Heap → Prop} (H : WpI prog c177 (retQ [.tmp 4] R) (argE [a0, a1]) 0 σ) : CallsA prog 177 [a0, a1] σ R := @callsA_of_wp prog [] hm 177 f177 [] ir177 [a0, a1] σ R func177 ok177 (Nat.le_of_ble_eq_true rfl) H
/- cmp.Or[int] -/
def c176l0 : ICode :=
  .seq (.region 1 [⟨(some 9), .bin .lss (.t 8) (.t 7), none⟩]) <|
  .seq (.cond (.t 9) (.skip) (.exit 0)) <|
  .seq (.block 1 (.seq (.region 3 [⟨(some 10), .iaddrS 1 (.t 6) (.t 8), none⟩,
    ⟨(some 11), .load none 1 false (.t 10), none⟩,
    ⟨(some 5), .mov (.t 11), none⟩]) <|
  .seq (.region 3 [⟨(some 12), .mov (.t 5), none⟩,
    ⟨(some 13), .mov (.t 3), none⟩,
    ⟨(some 14), .bin .neq (.t 12) (.t 13), none⟩]) <|
  .cond (.t 14) (.seq (.region 2 [⟨(some 15), .mov (.t 5), none⟩,
    ⟨(some 2), .mov (.t 15), none⟩]) <|
  .ret) (.skip))) <|
  .region 2 [⟨(some 16), .bin .add (.t 8) (.c (.int 1)), none⟩,
    ⟨(some 8), .mov (.t 16), none⟩]
def c176 : ICode :=
  .seq (.region 1 [⟨(some 2), .mov (.c (.int 0)), none⟩]) <|
  .seq (.region 1 [⟨(some 3), .mov (.c (.int 0)), none⟩]) <|
  .seq (.seq (.region 3 [⟨(some 6), .mov (.t 0), none⟩,
    ⟨(some 7), .len (.t 6), none⟩,
    ⟨(some 8), .mov (.c (.int 0)), none⟩]) <|
  .block 0 (.loop c176l0)) <|
  .seq (.region 2 [⟨(some 17), .mov (.t 3), none⟩,
    ⟨(some 2), .mov (.t 17), none⟩]) <|
  .ret
def ir176 : IFn := ⟨18, [], 1, [.tmp 2], c176⟩
theorem ok176 : compFn prog [] [] f176 = some ir176 := by kernel_rfl
theorem wp176 {a0 : AV} {r : AV} (H : ∀ σ, WpI prog c176 (retQ [.tmp 2] fun v s => v = r ∧ s = σ) (argE [a0]) 0 σ) : Pure prog 176 [a0] r := @pure_of_wp prog hm 176 f176 [] [] ir176 [a0] r func176 ok176 (Nat.le_of_ble_eq_true rfl) H
theorem wa176 {a0 : AV} {σ : Heap} {R : AV → Heap → Prop} (H : WpI prog c176 (retQ [.tmp 2] R) (argE [a0]) 0 σ) : CallsA prog 176 [a0] σ R := @callsA_of_wp prog [] hm 176 f176 [] ir176 [a0] σ R func176 ok176 (Nat.le_of_ble_eq_true rfl) H
/- dot.Compare -/
def c178 : ICode :=
  .seq (.region 3 [⟨(some 2), .bbox 0 (.t 0), none⟩,
    ⟨(some 3), .bbox 1 (.t 1), none⟩,
    ⟨(some 4), .mov (.c (.int 0)), none⟩]) <|
  .seq (.region 13 [⟨(some 5), .faddr (some 2) 0 (.b 2), none⟩,
    ⟨(some 6), .load (some 2) 1 false (.t 5), none⟩,
    ⟨(some 7), .faddr (some 3) 0 (.b 3), none⟩,
    ⟨(some 8), .load (some 3) 1 false (.t 7), none⟩,
    ⟨(some 9), .call (.c (.clo 177 [])) [(.t 6), (.t 8)], none⟩,
    ⟨(some 10), .faddr (some 2) 1 (.b 2), none⟩,
    ⟨(some 11), .load (some 2) 1 false (.t 10), none⟩,
    ⟨(some 12), .faddr (some 3) 1 (.b 3), none⟩,
    ⟨(some 13), .load (some 3) 1 false (.t 12), none⟩,
    ⟨(some 14), .call (.c (.clo 177 [])) [(.t 11), (.t 13)], none⟩,
    ⟨(some 15), .bslice 1 [(.t 9), (.t 14)], none⟩,
    ⟨(some 16), .call (.c (.clo 176 [])) [(.t 15)], none⟩,
    ⟨(some 4), .mov (.t 16), none⟩]) <|
  .ret
def ir178 : IFn := ⟨17, [2, 3], 2, [.tmp 4], c178⟩
theorem ok178 : compFn prog [2, 3] [] f178 = some ir178 := by kernel_rfl
theorem wp178 {a0 a1 : AV} {r : AV} (H : ∀ σ, WpI prog c178 (retQ [.tmp 4] fun v s => v = r ∧ s = σ) (argE [a0, a1]) 0 σ) : Pure prog 178 [a0, a1] r := @pure_of_wp prog hm 178 f178 [2, 3] [] ir178 [a0, a1] r func178 ok178 (Nat.le_of_ble_eq_true rfl) H
theorem wa178 {a0 a1 : AV} {σ : Heap} {R : AV → Heap → Prop} (H : WpI prog c178 (retQ [.tmp 4] R) (argE [a0, a1]) 0 σ) : CallsA prog 178 [a0, a1] σ R := @callsA_of_wp prog [2, 3] hm 178 f178 [] ir178 [a0, a1] σ R func178 ok178 (Nat.le_of_ble_eq_true rfl) H
/- txn.Compare -/
def c77 : ICode :=
  .seq (.region 3 [⟨(some 2), .bbox 0 (.t 0), none⟩,
    ⟨(some 3), .bbox 1 (.t 1), none⟩,
    ⟨(some 4), .mov (.c (.int 0)), none⟩]) <|
  .seq (.region 13 [⟨(some 5), .faddr (some 2) 3 (.b 2), none⟩,
    ⟨(some 6), .load (some 2) 1 false (.t 5), none⟩,
    ⟨(some 7), .faddr (some 3) 3 (.b 3), none⟩,
    ⟨(some 8), .load (some 3) 1 false (.t 7), none⟩,
    ⟨(some 9), .call (.c (.clo 177 [])) [(.t 6), (.t 8)], none⟩,
    ⟨(some 10), .faddr (some 2) 0 (.b 2), none⟩,
    ⟨(some 11), .load (some 2) 2 true (.t 10), none⟩,
    ⟨(some 12), .faddr (some 3) 0 (.b 3), none⟩,
    ⟨(some 13), .load (some 3) 2 true (.t 12), none⟩,
    ⟨(some 14), .call (.c (.clo 178 [])) [(.t 11), (.t 13)], none⟩,
    ⟨(some 15), .bslice 1 [(.t 9), (.t 14)], none⟩,
    ⟨(some 16), .call (.c (.clo 176 [])) [(.t 15)], none⟩,
    ⟨(some 4), .mov (.t 16), none⟩]) <|
  .ret
def ir77 : IFn := ⟨17, [2, 3], 2, [.tmp 4], c77⟩
theorem ok77 : compFn prog [2, 3] [] f77 = some ir77 := by kernel_rfl
theorem wp77 {a0 a1 : AV} {r : AV} (H : ∀ σ, WpI prog c77 (retQ [.tmp 4] fun v s => v = r ∧ s = σ) (argE [a0, a1]) 0 σ) : Pure prog 77 [a0, a1] r := @pure_of_wp prog hm 77 f77 [2, 3] [] ir77 [a0, a1] r func77 ok77 (Nat.le_of_ble_eq_true rfl) H
theorem wa77 {a0 a1 : AV} {σ : Heap} {R : AV → Heap → Prop} (H : WpI prog c77 (retQ [.tmp 4] R) (argE [a0, a1]) 0 σ) : CallsA prog 77 [a0, a1] σ R := @callsA_of_wp prog [2, 3] hm 77 f77 [] ir77 [a0, a1] σ R func77 ok77 (Nat.le_of_ble_eq_true rfl) H
/- tally.compare -/
def c211 : ICode :=
  .seq (.region 3 [⟨(some 2), .bbox 0 (.t 0), none⟩,
    ⟨(some 3), .bbox 1 (.t 1), none⟩,
    ⟨(some 4), .mov (.c (.int 0)), none⟩]) <|
  .seq (.region 6 [⟨(some 5), .faddr (some 2) 0 (.b 2), none⟩,
    ⟨(some 6), .load (some 2) 2 true (.t 5), none⟩,
    ⟨(some 7), .faddr (some 3) 0 (.b 3), none⟩,
    ⟨(some 8), .load (some 3) 2 true (.t 7), none⟩,
    ⟨(some 9), .call (.c (.clo 178 [])) [(.t 6), (.t 8)], none⟩,
    ⟨(some 4), .mov (.t 9), none⟩]) <|
  .ret
def ir211 : IFn := ⟨10, [2, 3], 2, [.tmp 4], c211⟩
theorem ok211 : compFn prog [2, 3] [] f211 = some ir211 := by kernel_rfl
theorem wp211 {a0 a1 : AV} {r : AV} (H : ∀ σ, WpI prog c211 (retQ [.tmp 4] fun v s => v = r ∧ s = σ) (argE [a0, a1]) 0 σ) : Pure prog 211 [a0, a1] r := @pure_of_wp prog hm 211 f211 [2, 3] [] ir211 [a0, a1] r func211 ok211 (Nat.le_of_ble_eq_true rfl) H
theorem wa211 {a0 a1 : AV} {σ : Heap} {R : AV → Heap → Prop} (H : WpI prog c211 (retQ [.tmp 4] R) (argE [a0, a1]) 0 σ) : CallsA prog 211 [a0, a1] σ R := @callsA_of_wp prog [2, 3] hm 211 f211 [] ir211 [a0, a1] σ R func211 ok211 (Nat.le_of_ble_eq_true rfl) H


theorem k_isNaN (a : Int) : Pure prog 245 [.int a] (.bool false) := by
  refine wp245 fun σ => ?_
  unfold c245
  simp -dsimp (disch := first | omega | assumption) only [↓PB, ↓reduceIte, QB, QC, QD, QE, Nat.reduceAdd, Nat.reduceMul, Nat.reduceEqDiff, Nat.reduceLT, Nat.reduceLeDiff, reduceCtorEq, QF, QG]
  repeat' (first
    | (with_reducible refine condD (fun _ => ?_) (fun _ => ?_)) <;> try (exfalso; omega)
    | (with_reducible refine condB (fun _ => ?_) (fun _ => ?_))
    | (with_reducible refine guardD (fun _ => ?_) (fun _ => ?_)) <;> try (exfalso; omega)
    | (with_reducible refine guardB (fun _ => ?_) (fun _ => ?_))
    | (with_reducible refine app_row (by assumption) src_lst (by simp only [List.length_map, List.length_append, List.length_cons, List.length_nil]; omega) (by simp only [List.length_map, List.length_append, List.length_cons, List.length_nil]; omega) (fun _ _ => ?_))
    | (simp -dsimp (disch := first | omega | assumption) only [↓PB, ↓reduceIte, QB, QC, QD, QE, Nat.reduceAdd, Nat.reduceMul, Nat.reduceEqDiff, Nat.reduceLT, Nat.reduceLeDiff, reduceCtorEq, QF, QG, *]))
  all_goals exact RetG.same ⟨by simp [t4, *], rfl⟩

theorem k_cmpInt (a b : Int) : Pure prog 177 [.int a, .int b] (.int (cmpI a b)) := by
  refine wp177 fun σ => ?_
  unfold c177
  simp -dsimp (disch := first | omega | assumption) only [↓PB, ↓reduceIte, QB, QC, QD, QE, Nat.reduceAdd, Nat.reduceMul, Nat.reduceEqDiff, Nat.reduceLT, Nat.reduceLeDiff, reduceCtorEq, QF, QG]
  repeat' (first
    | (with_reducible refine CallG.pure (k_isNaN _) ?_)
    | (with_reducible refine CallQ.pure (k_isNaN _) ?_)
    | (with_reducible refine condD (fun _ => ?_) (fun _ => ?_)) <;> try (exfalso; omega)
    | (with_reducible refine condB (fun _ => ?_) (fun _ => ?_))
    | (with_reducible refine guardD (fun _ => ?_) (fun _ => ?_)) <;> try (exfalso; omega)
    | (with_reducible refine guardB (fun _ => ?_) (fun _ => ?_))
    | (with_reducible refine app_row (by assumption) src_lst (by simp only [List.length_map, List.length_append, List.length_cons, List.length_nil]; omega) (by simp only [List.length_map, List.length_append, List.length_cons, List.length_nil]; omega) (fun _ _ => ?_))
    | (simp -dsimp (disch := first | omega | assumption) only [↓PB, ↓reduceIte, QB, QC, QD, QE, Nat.reduceAdd, Nat.reduceMul, Nat.reduceEqDiff, Nat.reduceLT, Nat.reduceLeDiff, reduceCtorEq, QF, QG, *]))
  all_goals exact RetG.same ⟨by simp [t4, cmpI, *], rfl⟩

def firstNZ : List Int → Int
  | [] => 0
  | a :: l => if a ≠ 0 then a else firstNZ l

theorem k_or (l : List Int) (hl : l.length ≤ 1000000) : Pure prog 176 [encL 1 AV.int l] (.int (firstNZ l)) := by
  refine wp176 fun σ => ?_
  unfold c176
  simp -dsimp (disch := first | omega | assumption) only [↓PB, ↓reduceIte, QB, QC, QD, QE, Nat.reduceAdd, Nat.reduceMul, Nat.reduceEqDiff, Nat.reduceLT, Nat.reduceLeDiff, reduceCtorEq, QF, QG]
  refine loop_p l.length (fun i e => e 8 = .int i ∧ firstNZ l = firstNZ (l.drop i)) 0 (by omega) ⟨by simp -dsimp (disch := first | omega | assumption) only [↓PB, ↓reduceIte, QB, QC, QD, QE, Nat.reduceAdd, Nat.reduceMul, Nat.reduceEqDiff, Nat.reduceLT, Nat.reduceLeDiff, reduceCtorEq, QF, QG, *] <;> rfl, by simp⟩ ?_
  rintro i e n hi ha ⟨h8, hg⟩
  have h3 := ha 3 (by decide)
  have h6 := ha 6 (by decide)
  have h7 := ha 7 (by decide)
  simp -dsimp (disch := first | omega | assumption) only [↓PB, ↓reduceIte, QB, QC, QD, QE, Nat.reduceAdd, Nat.reduceMul, Nat.reduceEqDiff, Nat.reduceLT, Nat.reduceLeDiff, reduceCtorEq, QF, QG, *] at h3 h6 h7
  clear ha
  unfold c176l0
  by_cases hlt : i < l.length
  · rw [List.drop_eq_getElem_cons hlt, firstNZ] at hg
    repeat' (first
      | (with_reducible refine condD (fun _ => ?_) (fun _ => ?_)) <;> try (exfalso; omega)
      | (with_reducible refine condB (fun _ => ?_) (fun _ => ?_))
      | (with_reducible refine guardD (fun _ => ?_) (fun _ => ?_)) <;> try (exfalso; omega)
      | (with_reducible refine guardB (fun _ => ?_) (fun _ => ?_))
      | (with_reducible refine app_row (by assumption) src_lst (by simp only [List.length_map, List.length_append, List.length_cons, List.length_nil]; omega) (by simp only [List.length_map, List.length_append, List.length_cons, List.length_nil]; omega) (fun _ _ => ?_))
      | (simp -dsimp (disch := first | omega | assumption) only [↓PB, ↓reduceIte, QB, QC, QD, QE, Nat.reduceAdd, Nat.reduceMul, Nat.reduceEqDiff, Nat.reduceLT, Nat.reduceLeDiff, reduceCtorEq, QF, QG, *]))
    · rw [if_neg (by simpa using ‹l[i] = 0›)] at hg
      first | exact ⟨by simp, hg⟩ | (simp; done)
    · exact RetG.same ⟨by rw [t4, hg, if_pos (by assumption)], rfl⟩
  · rw [List.drop_eq_nil_of_le (by omega), firstNZ] at hg
    repeat' (first
      | (with_reducible refine condD (fun _ => ?_) (fun _ => ?_)) <;> try (exfalso; omega)
      | (with_reducible refine condB (fun _ => ?_) (fun _ => ?_))
      | (with_reducible refine guardD (fun _ => ?_) (fun _ => ?_)) <;> try (exfalso; omega)
      | (with_reducible refine guardB (fun _ => ?_) (fun _ => ?_))
      | (with_reducible refine app_row (by assumption) src_lst (by simp only [List.length_map, List.length_append, List.length_cons, List.length_nil]; omega) (by simp only [List.length_map, List.length_append, List.length_cons, List.length_nil]; omega) (fun _ _ => ?_))
      | (simp -dsimp (disch := first | omega | assumption) only [↓PB, ↓reduceIte, QB, QC, QD, QE, Nat.reduceAdd, Nat.reduceMul, Nat.reduceEqDiff, Nat.reduceLT, Nat.reduceLeDiff, reduceCtorEq, QF, QG, *]))
    exact RetG.same ⟨by rw [t4, hg], rfl⟩
theorem k_or2 (a b : Int) : Pure prog 176 [.lst 1 [.int a, .int b]] (.int (if a ≠ 0 then a else b)) := by
  have := k_or [a, b] (by simp)
  have he : firstNZ [a, b] = if a ≠ 0 then a else b := by
    simp only [firstNZ]; split <;> first | rfl | (split <;> omega)
  rw [he] at this
  exact this

theorem k_dotCompare (a b : Dot) : Pure prog 178 [encDot a, encDot b] (.int (cmpDot a b)) := by
  refine wp178 fun σ => ?_
  unfold c178
  simp -dsimp (disch := first | omega | assumption) only [↓PB, ↓reduceIte, QB, QC, QD, QE, Nat.reduceAdd, Nat.reduceMul, Nat.reduceEqDiff, Nat.reduceLT, Nat.reduceLeDiff, reduceCtorEq, QF, QG]
  repeat' (first
    | (with_reducible refine CallG.pure (k_cmpInt _ _) ?_)
    | (with_reducible refine CallQ.pure (k_cmpInt _ _) ?_)
    | (with_reducible refine CallG.pure (k_or2 _ _) ?_)
    | (with_reducible refine CallQ.pure (k_or2 _ _) ?_)
    | (with_reducible refine condD (fun _ => ?_) (fun _ => ?_)) <;> try (exfalso; omega)
    | (with_reducible refine condB (fun _ => ?_) (fun _ => ?_))
    | (with_reducible refine guardD (fun _ => ?_) (fun _ => ?_)) <;> try (exfalso; omega)
    | (with_reducible refine guardB (fun _ => ?_) (fun _ => ?_))
    | (with_reducible refine app_row (by assumption) src_lst (by simp only [List.length_map, List.length_append, List.length_cons, List.length_nil]; omega) (by simp only [List.length_map, List.length_append, List.length_cons, List.length_nil]; omega) (fun _ _ => ?_))
    | (simp -dsimp (disch := first | omega | assumption) only [↓PB, ↓reduceIte, QB, QC, QD, QE, Nat.reduceAdd, Nat.reduceMul, Nat.reduceEqDiff, Nat.reduceLT, Nat.reduceLeDiff, reduceCtorEq, QF, QG, *]))
  refine RetG.same ⟨?_, rfl⟩
  have : (if ¬cmpI a.R b.R = 0 then cmpI a.R b.R else cmpI a.N b.N) = cmpDot a b := by
    unfold cmpDot cmpI; repeat' split
    all_goals omega
  rw [t4, this]

theorem k_txnCompare (a b : Txn) : Pure prog 77 [encTxn a, encTxn b] (.int (cmpTxn a b)) := by
  refine wp77 fun σ => ?_
  unfold c77
  simp -dsimp (disch := first | omega | assumption) only [↓PB, ↓reduceIte, QB, QC, QD, QE, Nat.reduceAdd, Nat.reduceMul, Nat.reduceEqDiff, Nat.reduceLT, Nat.reduceLeDiff, reduceCtorEq, QF, QG]
  repeat' (first
    | (with_reducible refine CallG.pure (k_cmpInt _ _) ?_)
    | (with_reducible refine CallQ.pure (k_cmpInt _ _) ?_)
    | (with_reducible refine CallG.pure (k_or2 _ _) ?_)
    | (with_reducible refine CallQ.pure (k_or2 _ _) ?_)
    | (with_reducible refine CallG.pure (k_dotCompare _ _) ?_)
    | (with_reducible refine CallQ.pure (k_dotCompare _ _) ?_)
    | (with_reducible refine condD (fun _ => ?_) (fun _ => ?_)) <;> try (exfalso; omega)
    | (with_reducible refine condB (fun _ => ?_) (fun _ => ?_))
    | (with_reducible refine guardD (fun _ => ?_) (fun _ => ?_)) <;> try (exfalso; omega)
    | (with_reducible refine guardB (fun _ => ?_) (fun _ => ?_))
    | (with_reducible refine app_row (by assumption) src_lst (by simp only [List.length_map, List.length_append, List.length_cons, List.length_nil]; omega) (by simp only [List.length_map, List.length_append, List.length_cons, List.length_nil]; omega) (fun _ _ => ?_))
    | (simp -dsimp (disch := first | omega | assumption) only [↓PB, ↓reduceIte, QB, QC, QD, QE, Nat.reduceAdd, Nat.reduceMul, Nat.reduceEqDiff, Nat.reduceLT, Nat.reduceLeDiff, reduceCtorEq, QF, QG, *]))
  refine RetG.same ⟨?_, rfl⟩
  have : (if ¬cmpI a.Time b.Time = 0 then cmpI a.Time b.Time else cmpDot a.D b.D) = cmpTxn a b := by
    unfold cmpTxn; generalize cmpDot a.D b.D = z; unfold cmpI; repeat' split
    all_goals omega
  rw [t4, this]

theorem k_tallyCompare (a b : Undo) : Pure prog 211 [encUndo a, encUndo b] (.int (cmpDot a.D b.D)) := by
  refine wp211 fun σ => ?_
  unfold c211
  simp -dsimp (disch := first | omega | assumption) only [↓PB, ↓reduceIte, QB, QC, QD, QE, Nat.reduceAdd, Nat.reduceMul, Nat.reduceEqDiff, Nat.reduceLT, Nat.reduceLeDiff, reduceCtorEq, QF, QG]
  repeat' (first
    | (with_reducible refine CallG.pure (k_dotCompare _ _) ?_)
    | (with_reducible refine CallQ.pure (k_dotCompare _ _) ?_)
    | (with_reducible refine condD (fun _ => ?_) (fun _ => ?_)) <;> try (exfalso; omega)
    | (with_reducible refine condB (fun _ => ?_) (fun _ => ?_))
    | (with_reducible refine guardD (fun _ => ?_) (fun _ => ?_)) <;> try (exfalso; omega)
    | (with_reducible refine guardB (fun _ => ?_) (fun _ => ?_))
    | (with_reducible refine app_row (by assumption) src_lst (by simp only [List.length_map, List.length_append, List.length_cons, List.length_nil]; omega) (by simp only [List.length_map, List.length_append, List.length_cons, List.length_nil]; omega) (fun _ _ => ?_))
    | (simp -dsimp (disch := first | omega | assumption) only [↓PB, ↓reduceIte, QB, QC, QD, QE, Nat.reduceAdd, Nat.reduceMul, Nat.reduceEqDiff, Nat.reduceLT, Nat.reduceLeDiff, reduceCtorEq, QF, QG, *]))
  all_goals exact RetG.same ⟨by simp [t4, *], rfl⟩
end Go.Av

namespace Go.Av
open Go.Proofs.Tryz
set_option maxRecDepth 100000
set_option linter.unusedSimpArgs false
set_option linter.unusedVariables false

/- slices.BinarySearchFunc[[]api.Undo,api.Undo,api.Undo] -/
def c301l0 : ICode :=
  .seq (.seq (.region 3 [⟨(some 15), .mov (.t 9), none⟩,
    ⟨(some 16), .mov (.t 10), none⟩,
    ⟨(some 17), .bin .lss (.t 15) (.t 16), none⟩]) <|
  .cond (.t 17) (.skip) (.exit 0)) <|
  .block 1 (.seq (.region 7 [⟨(some 18), .mov (.t 9), none⟩,
    ⟨(some 19), .mov (.t 10), none⟩,
    ⟨(some 20), .bin .add (.t 18) (.t 19), none⟩,
    ⟨(some 21), .cvi .u64 (.t 20), none⟩,
    ⟨(some 22), .bin .shr (.t 21) (.c (.sc (.int .u64 1))), none⟩,
    ⟨(some 23), .cvi .i64 (.t 22), none⟩,
    ⟨(some 11), .mov (.t 23), none⟩]) <|
  .seq (.region 8 [⟨(some 24), .mov (.t 2), none⟩,
    ⟨(some 25), .mov (.t 0), none⟩,
    ⟨(some 26), .mov (.t 11), none⟩,
    ⟨(some 27), .iaddrS 3 (.t 25) (.t 26), none⟩,
    ⟨(some 28), .load none 3 true (.t 27), none⟩,
    ⟨(some 29), .load (some 4) 3 true (.b 4), none⟩,
    ⟨(some 30), .call (.t 24) [(.t 28), (.t 29)], none⟩,
    ⟨(some 31), .bin .lss (.t 30) (.c (.int 0)), none⟩]) <|
  .cond (.t 31) (.region 3 [⟨(some 32), .mov (.t 11), none⟩,
    ⟨(some 33), .bin .add (.t 32) (.c (.int 1)), none⟩,
    ⟨(some 9), .mov (.t 33), none⟩]) (.region 2 [⟨(some 34), .mov (.t 11), none⟩,
    ⟨(some 10), .mov (.t 34), none⟩]))
def c301 : ICode :=
  .seq (.region 3 [⟨(some 4), .bbox 0 (.t 1), none⟩,
    ⟨(some 6), .mov (.c (.int 0)), none⟩,
    ⟨(some 7), .mov (.c (.bool false)), none⟩]) <|
  .seq (.region 3 [⟨(some 12), .mov (.t 0), none⟩,
    ⟨(some 13), .len (.t 12), none⟩,
    ⟨(some 8), .mov (.t 13), none⟩]) <|
  .seq (.region 3 [⟨(some 14), .mov (.t 8), none⟩,
    ⟨(some 9), .mov (.c (.int 0)), none⟩,
    ⟨(some 10), .mov (.t 14), none⟩]) <|
  .seq (.block 0 (.loop c301l0)) <|
  .seq (.region 16 [⟨(some 35), .mov (.t 9), none⟩,
    ⟨(some 36), .mov (.t 9), none⟩,
    ⟨(some 37), .mov (.t 8), none⟩,
    ⟨(some 38), .bin .lss (.t 36) (.t 37), none⟩,
    ⟨(some 39), .mov (.t 38), none⟩,
    ⟨(some 40), .mov (.t 2), (some (39, true))⟩,
    ⟨(some 41), .mov (.t 0), (some (39, true))⟩,
    ⟨(some 42), .mov (.t 9), (some (39, true))⟩,
    ⟨(some 43), .iaddrS 3 (.t 41) (.t 42), (some (39, true))⟩,
    ⟨(some 44), .load none 3 true (.t 43), (some (39, true))⟩,
    ⟨(some 45), .load (some 4) 3 true (.b 4), (some (39, true))⟩,
    ⟨(some 46), .call (.t 40) [(.t 44), (.t 45)], (some (39, true))⟩,
    ⟨(some 47), .bin .eql (.t 46) (.c (.int 0)), (some (39, true))⟩,
    ⟨(some 48), .pick (.t 39) (.t 47) (.c (.bool false)), none⟩,
    ⟨(some 6), .mov (.t 35), none⟩,
    ⟨(some 7), .mov (.t 48), none⟩]) <|
  .ret
def ir301 : IFn := ⟨49, [4], 3, [.tmp 6, .tmp 7], c301⟩
theorem ok301 : compFn prog [4] [] f301 = some ir301 := by kernel_rfl
theorem wp301 {a0 a1 a2 : AV} {r : AV} (H : ∀ σ, WpI prog c301 (retQ [.tmp 6, .tmp 7] fun v s => v = r ∧ s = σ) (argE [a0, a1, a2]) 0 σ) : Pure prog 301 [a0, a1, a2] r := @pure_of_wp prog hm 301 f301 [4] [] ir301 [a0, a1, a2] r func301 ok301 (Nat.le_of_ble_eq_true rfl) H
theorem wa301 {a0 a1 a2 : AV} {σ : Heap} {R : AV → Heap → Prop} (H : WpI prog c301 (retQ [.tmp 6, .tmp 7] R) (argE [a0, a1, a2]) 0 σ) : CallsA prog 301 [a0, a1, a2] σ R := @callsA_of_wp prog [4] hm 301 f301 [] ir301 [a0, a1, a2] σ R func301 ok301 (Nat.le_of_ble_eq_true rfl) H
/- slices.BinarySearchFunc[[]api.Dot,api.Dot,api.Dot] -/
def c207l0 : ICode :=
  .seq (.seq (.region 3 [⟨(some 15), .mov (.t 9), none⟩,
    ⟨(some 16), .mov (.t 10), none⟩,
    ⟨(some 17), .bin .lss (.t 15) (.t 16), none⟩]) <|
  .cond (.t 17) (.skip) (.exit 0)) <|
  .block 1 (.seq (.region 7 [⟨(some 18), .mov (.t 9), none⟩,
    ⟨(some 19), .mov (.t 10), none⟩,
    ⟨(some 20), .bin .add (.t 18) (.t 19), none⟩,
    ⟨(some 21), .cvi .u64 (.t 20), none⟩,
    ⟨(some 22), .bin .shr (.t 21) (.c (.sc (.int .u64 1))), none⟩,
    ⟨(some 23), .cvi .i64 (.t 22), none⟩,
    ⟨(some 11), .mov (.t 23), none⟩]) <|
  .seq (.region 8 [⟨(some 24), .mov (.t 2), none⟩,
    ⟨(some 25), .mov (.t 0), none⟩,
    ⟨(some 26), .mov (.t 11), none⟩,
    ⟨(some 27), .iaddrS 2 (.t 25) (.t 26), none⟩,
    ⟨(some 28), .load none 2 true (.t 27), none⟩,
    ⟨(some 29), .load (some 4) 2 true (.b 4), none⟩,
    ⟨(some 30), .call (.t 24) [(.t 28), (.t 29)], none⟩,
    ⟨(some 31), .bin .lss (.t 30) (.c (.int 0)), none⟩]) <|
  .cond (.t 31) (.region 3 [⟨(some 32), .mov (.t 11), none⟩,
    ⟨(some 33), .bin .add (.t 32) (.c (.int 1)), none⟩,
    ⟨(some 9), .mov (.t 33), none⟩]) (.region 2 [⟨(some 34), .mov (.t 11), none⟩,
    ⟨(some 10), .mov (.t 34), none⟩]))
def c207 : ICode :=
  .seq (.region 3 [⟨(some 4), .bbox 0 (.t 1), none⟩,
    ⟨(some 6), .mov (.c (.int 0)), none⟩,
    ⟨(some 7), .mov (.c (.bool false)), none⟩]) <|
  .seq (.region 3 [⟨(some 12), .mov (.t 0), none⟩,
    ⟨(some 13), .len (.t 12), none⟩,
    ⟨(some 8), .mov (.t 13), none⟩]) <|
  .seq (.region 3 [⟨(some 14), .mov (.t 8), none⟩,
    ⟨(some 9), .mov (.c (.int 0)), none⟩,
    ⟨(some 10), .mov (.t 14), none⟩]) <|
  .seq (.block 0 (.loop c207l0)) <|
  .seq (.region 16 [⟨(some 35), .mov (.t 9), none⟩,
    ⟨(some 36), .mov (.t 9), none⟩,
    ⟨(some 37), .mov (.t 8), none⟩,
    ⟨(some 38), .bin .lss (.t 36) (.t 37), none⟩,
    ⟨(some 39), .mov (.t 38), none⟩,
    ⟨(some 40), .mov (.t 2), (some (39, true))⟩,
    ⟨(some 41), .mov (.t 0), (some (39, true))⟩,
    ⟨(some 42), .mov (.t 9), (some (39, true))⟩,
    ⟨(some 43), .iaddrS 2 (.t 41) (.t 42), (some (39, true))⟩,
    ⟨(some 44), .load none 2 true (.t 43), (some (39, true))⟩,
    ⟨(some 45), .load (some 4) 2 true (.b 4), (some (39, true))⟩,
    ⟨(some 46), .call (.t 40) [(.t 44), (.t 45)], (some (39, true))⟩,
    ⟨(some 47), .bin .eql (.t 46) (.c (.int 0)), (some (39, true))⟩,
    ⟨(some 48), .pick (.t 39) (.t 47) (.c (.bool false)), none⟩,
    ⟨(some 6), .mov (.t 35), none⟩,
    ⟨(some 7), .mov (.t 48), none⟩]) <|
  .ret
def ir207 : IFn := ⟨49, [4], 3, [.tmp 6, .tmp 7], c207⟩
theorem ok207 : compFn prog [4] [] f207 = some ir207 := by kernel_rfl
theorem wp207 {a0 a1 a2 : AV} {r : AV} (H : ∀ σ, WpI prog c207 (retQ [.tmp 6, .tmp 7] fun v s => v = r ∧ s = σ) (argE [a0, a1, a2]) 0 σ) : Pure prog 207 [a0, a1, a2] r := @pure_of_wp prog hm 207 f207 [4] [] ir207 [a0, a1, a2] r func207 ok207 (Nat.le_of_ble_eq_true rfl) H
theorem wa207 {a0 a1 a2 : AV} {σ : Heap} {R : AV → Heap → Prop} (H : WpI prog c207 (retQ [.tmp 6, .tmp 7] R) (argE [a0, a1, a2]) 0 σ) : CallsA prog 207 [a0, a1, a2] σ R := @callsA_of_wp prog [4] hm 207 f207 [] ir207 [a0, a1, a2] σ R func207 ok207 (Nat.le_of_ble_eq_true rfl) H


theorem k_bs_Undo (l : List Undo) (x : Undo) (g : FuncId) (cf : Undo → Undo → Int) (hl : l.length ≤ 1000000) (hc : ∀ y, Pure prog g [encUndo y, encUndo x] (.int (cf y x))) (hd : Down (fun y => decide (cf y x < 0)) l) :
    Pure prog 301 [encL 3 encUndo l, encUndo x, .clo g []] (.tup [.int (lowB (fun y => decide (cf y x < 0)) l), .bool (if h : lowB (fun y => decide (cf y x < 0)) l < l.length then decide (cf (l[lowB (fun y => decide (cf y x < 0)) l]'h) x = 0) else false)]) := by
  have hk := lowB_le (p := fun y => decide (cf y x < 0)) (l := l)
  refine wp301 fun σ => ?_
  unfold c301
  simp -dsimp (disch := first | omega | assumption) only [↓PB, ↓reduceIte, QB, QC, QD, QE, Nat.reduceAdd, Nat.reduceMul, Nat.reduceEqDiff, Nat.reduceLT, Nat.reduceLeDiff, reduceCtorEq, QF, QG]
  refine loop_m (fun m e => ∃ i j : Nat, e 9 = .int i ∧ e 10 = .int j ∧ m = j - i ∧ i ≤ lowB (fun y => decide (cf y x < 0)) l ∧ lowB (fun y => decide (cf y x < 0)) l ≤ j ∧ j ≤ l.length) l.length ⟨0, l.length, by simp -dsimp (disch := first | omega | assumption) only [↓PB, ↓reduceIte, QB, QC, QD, QE, Nat.reduceAdd, Nat.reduceMul, Nat.reduceEqDiff, Nat.reduceLT, Nat.reduceLeDiff, reduceCtorEq, QF, QG, *] <;> rfl, by simp -dsimp (disch := first | omega | assumption) only [↓PB, ↓reduceIte, QB, QC, QD, QE, Nat.reduceAdd, Nat.reduceMul, Nat.reduceEqDiff, Nat.reduceLT, Nat.reduceLeDiff, reduceCtorEq, QF, QG, *], by omega, by omega, hk, by omega⟩ ?_
  rintro m e n ha ⟨i, j, h9, h10, rfl, hi, hj, hn⟩
  have h0 := ha 0 (by decide)
  have h2 := ha 2 (by decide)
  have h4 := ha 4 (by decide)
  have h8 := ha 8 (by decide)
  simp -dsimp (disch := first | omega | assumption) only [↓PB, ↓reduceIte, QB, QC, QD, QE, Nat.reduceAdd, Nat.reduceMul, Nat.reduceEqDiff, Nat.reduceLT, Nat.reduceLeDiff, reduceCtorEq, QF, QG, *] at h0 h2 h4 h8
  clear ha
  unfold c301l0
  by_cases hij : i < j
  · have hm : (i + j) / 2 < l.length := by omega
    repeat' (first
      | (with_reducible refine CallG.pure (hc _) ?_)
      | (with_reducible refine CallQ.pure (hc _) ?_)
      | (with_reducible refine condD (fun _ => ?_) (fun _ => ?_)) <;> try (exfalso; omega)
      | (with_reducible refine condB (fun _ => ?_) (fun _ => ?_))
      | (with_reducible refine guardD (fun _ => ?_) (fun _ => ?_)) <;> try (exfalso; omega)
      | (with_reducible refine guardB (fun _ => ?_) (fun _ => ?_))
      | (with_reducible refine app_row (by assumption) src_lst (by simp only [List.length_map, List.length_append, List.length_cons, List.length_nil]; omega) (by simp only [List.length_map, List.length_append, List.length_cons, List.length_nil]; omega) (fun _ _ => ?_))
      | (simp -dsimp (disch := first | omega | assumption) only [↓PB, ↓reduceIte, QB, QC, QD, QE, Nat.reduceAdd, Nat.reduceMul, Nat.reduceEqDiff, Nat.reduceLT, Nat.reduceLeDiff, reduceCtorEq, QF, QG, *]))
    · exact ⟨j - ((i + j) / 2 + 1), by omega, (i + j) / 2 + 1, j, by simp, rfl, rfl, lowB_ge hd hm (by simpa using ‹cf l[(i + j) / 2] x < 0›), hj, hn⟩
    · refine ⟨(i + j) / 2 - i, by omega, i, (i + j) / 2, rfl, rfl, rfl, hi, ?_, by omega⟩
      by_cases hlt : (i + j) / 2 < lowB (fun y => decide (cf y x < 0)) l
      · have := lowB_lt hm hlt
        simp only [decide_eq_true_eq] at this
        exact absurd this (by assumption)
      · omega
  · have hie : lowB (fun y => decide (cf y x < 0)) l = i := by omega
    repeat' (first
      | (with_reducible refine CallG.pure (hc _) ?_)
      | (with_reducible refine CallQ.pure (hc _) ?_)
      | (with_reducible refine condD (fun _ => ?_) (fun _ => ?_)) <;> try (exfalso; omega)
      | (with_reducible refine condB (fun _ => ?_) (fun _ => ?_))
      | (with_reducible refine guardD (fun _ => ?_) (fun _ => ?_)) <;> try (exfalso; omega)
      | (with_reducible refine guardB (fun _ => ?_) (fun _ => ?_))
      | (with_reducible refine app_row (by assumption) src_lst (by simp only [List.length_map, List.length_append, List.length_cons, List.length_nil]; omega) (by simp only [List.length_map, List.length_append, List.length_cons, List.length_nil]; omega) (fun _ _ => ?_))
      | (simp -dsimp (disch := first | omega | assumption) only [↓PB, ↓reduceIte, QB, QC, QD, QE, Nat.reduceAdd, Nat.reduceMul, Nat.reduceEqDiff, Nat.reduceLT, Nat.reduceLeDiff, reduceCtorEq, QF, QG, *]))
    · exact RetG.same ⟨by rw [t5, dif_pos (by omega)]; simp only [hie], rfl⟩
    · exact RetG.same ⟨by rw [t5, dif_neg (by omega), hie], rfl⟩

theorem k_bs_Dot (l : List Dot) (x : Dot) (g : FuncId) (cf : Dot → Dot → Int) (hl : l.length ≤ 1000000) (hc : ∀ y, Pure prog g [encDot y, encDot x] (.int (cf y x))) (hd : Down (fun y => decide (cf y x < 0)) l) :
    Pure prog 207 [encL 2 encDot l, encDot x, .clo g []] (.tup [.int (lowB (fun y => decide (cf y x < 0)) l), .bool (if h : lowB (fun y => decide (cf y x < 0)) l < l.length then decide (cf (l[lowB (fun y => decide (cf y x < 0)) l]'h) x = 0) else false)]) := by
  have hk := lowB_le (p := fun y => decide (cf y x < 0)) (l := l)
  refine wp207 fun σ => ?_
  unfold c207
  simp -dsimp (disch := first | omega | assumption) only [↓PB, ↓reduceIte, QB, QC, QD, QE, Nat.reduceAdd, Nat.reduceMul, Nat.reduceEqDiff, Nat.reduceLT, Nat.reduceLeDiff, reduceCtorEq, QF, QG]
  refine loop_m (fun m e => ∃ i j : Nat, e 9 = .int i ∧ e 10 = .int j ∧ m = j - i ∧ i ≤ lowB (fun y => decide (cf y x < 0)) l ∧ lowB (fun y => decide (cf y x < 0)) l ≤ j ∧ j ≤ l.length) l.length ⟨0, l.length, by simp -dsimp (disch := first | omega | assumption) only [↓PB, ↓reduceIte, QB, QC, QD, QE, Nat.reduceAdd, Nat.reduceMul, Nat.reduceEqDiff, Nat.reduceLT, Nat.reduceLeDiff, reduceCtorEq, QF, QG, *] <;> rfl, by simp -dsimp (disch := first | omega | assumption) only [↓PB, ↓reduceIte, QB, QC, QD, QE, Nat.reduceAdd, Nat.reduceMul, Nat.reduceEqDiff, Nat.reduceLT, Nat.reduceLeDiff, reduceCtorEq, QF, QG, *], by omega, by omega, hk, by omega⟩ ?_
  rintro m e n ha ⟨i, j, h9, h10, rfl, hi, hj, hn⟩
  have h0 := ha 0 (by decide)
  have h2 := ha 2 (by decide)
  have h4 := ha 4 (by decide)
  have h8 := ha 8 (by decide)
  simp -dsimp (disch := first | omega | assumption) only [↓PB, ↓reduceIte, QB, QC, QD, QE, Nat.reduceAdd, Nat.reduceMul, Nat.reduceEqDiff, Nat.reduceLT, Nat.reduceLeDiff, reduceCtorEq, QF, QG, *] at h0 h2 h4 h8
  clear ha
  unfold c207l0
  by_cases hij : i < j
  · have hm : (i + j) / 2 < l.length := by omega
    repeat' (first
      | (with_reducible refine CallG.pure (hc _) ?_)
      | (with_reducible refine CallQ.pure (hc _) ?_)
      | (with_reducible refine condD (fun _ => ?_) (fun _ => ?_)) <;> try (exfalso; omega)
      | (with_reducible refine condB (fun _ => ?_) (fun _ => ?_))
      | (with_reducible refine guardD (fun _ => ?_) (fun _ => ?_)) <;> try (exfalso; omega)
      | (with_reducible refine guardB (fun _ => ?_) (fun _ => ?_))
      | (with_reducible refine app_row (by assumption) src_lst (by simp only [List.length_map, List.length_append, List.length_cons, List.length_nil]; omega) (by simp only [List.length_map, List.length_append, List.length_cons, List.length_nil]; omega) (fun _ _ => ?_))
      | (simp -dsimp (disch := first | omega | assumption) only [↓PB, ↓reduceIte, QB, QC, QD, QE, Nat.reduceAdd, Nat.reduceMul, Nat.reduceEqDiff, Nat.reduceLT, Nat.reduceLeDiff, reduceCtorEq, QF, QG, *]))
    · exact ⟨j - ((i + j) / 2 + 1), by omega, (i + j) / 2 + 1, j, by simp, rfl, rfl, lowB_ge hd hm (by simpa using ‹cf l[(i + j) / 2] x < 0›), hj, hn⟩
    · refine ⟨(i + j) / 2 - i, by omega, i, (i + j) / 2, rfl, rfl, rfl, hi, ?_, by omega⟩
      by_cases hlt : (i + j) / 2 < lowB (fun y => decide (cf y x < 0)) l
      · have := lowB_lt hm hlt
        simp only [decide_eq_true_eq] at this
        exact absurd this (by assumption)
      · omega
  · have hie : lowB (fun y => decide (cf y x < 0)) l = i := by omega
    repeat' (first
      | (with_reducible refine CallG.pure (hc _) ?_)
      | (with_reducible refine CallQ.pure (hc _) ?_)
      | (with_reducible refine condD (fun _ => ?_) (fun _ => ?_)) <;> try (exfalso; omega)
      | (with_reducible refine condB (fun _ => ?_) (fun _ => ?_))
      | (with_reducible refine guardD (fun _ => ?_) (fun _ => ?_)) <;> try (exfalso; omega)
      | (with_reducible refine guardB (fun _ => ?_) (fun _ => ?_))
      | (with_reducible refine app_row (by assumption) src_lst (by simp only [List.length_map, List.length_append, List.length_cons, List.length_nil]; omega) (by simp only [List.length_map, List.length_append, List.length_cons, List.length_nil]; omega) (fun _ _ => ?_))
      | (simp -dsimp (disch := first | omega | assumption) only [↓PB, ↓reduceIte, QB, QC, QD, QE, Nat.reduceAdd, Nat.reduceMul, Nat.reduceEqDiff, Nat.reduceLT, Nat.reduceLeDiff, reduceCtorEq, QF, QG, *]))
    · exact RetG.same ⟨by rw [t5, dif_pos (by omega)]; simp only [hie], rfl⟩
    · exact RetG.same ⟨by rw [t5, dif_neg (by omega), hie], rfl⟩
end Go.Av

