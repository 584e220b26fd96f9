/- Part 10 of the proof: own lemmas, of no statement. -/
import Derived.Test.YtjnenmbfojkoeaaGreatDoorVci
import Derived.Test.YtjnenmbfojkoeaaGreatDoorVcf
import Derived.Shelf.Strings.OnBuilder
import Derived.Shelf.LaysM
import Derived.Shelf.Strconv.Itoa3
import Derived.Shelf.SlLaysF0
import Derived.Test.YtjnenmbfojkoeaaGreatDoorProg
import Derived.RangeFuncBox
import Derived.RangeFuncLeaves
import Derived.RangeFuncNested
import Derived.Shelf.Abstract
import Derived.WalkKit
import Derived.OwnWalkIn
import Derived.TacticsInMore
import Derived.LoopNIn
import Derived.LoopIn
import Derived.Maps.AppendAt
import Derived.Sort.EveryDepth
import Derived.Test.YtjnenmbfojkoeaaGreatDoorVce
import Derived.Shelf.SlSortCmp.NoneTotal
import Derived.Test.YtjnenmbfojkoeaaGreatDoorVcd
set_option linter.unusedSimpArgs false
set_option linter.unusedVariables false
set_option linter.defProp false
namespace Go.Av
open Go.Proofs.Tryz
set_option maxRecDepth 100000
set_option linter.unusedSimpArgs false
set_option linter.unusedVariables false

/- tally.at -/
def c246 : ICode :=
  .seq (.region 3 [⟨(some 3), .bbox 0 (.t 1), none⟩,
    ⟨(some 4), .mov (.c (.int 0)), none⟩,
    ⟨(some 5), .mov (.c (.bool false)), none⟩]) <|
  .seq (.region 8 [⟨(some 6), .mov (.t 0), none⟩,
    ⟨(some 7), .load (some 3) 2 true (.b 3), none⟩,
    ⟨(some 8), .build (.agg [(.int 0), (.int 0), (.int 0)]) [(0, 2, (.t 7))], none⟩,
    ⟨(some 9), .call (.c (.clo 301 [])) [(.t 6), (.t 8), (.c (.clo 211 []))], none⟩,
    ⟨(some 10), .ext 0 (.t 9), none⟩,
    ⟨(some 11), .ext 1 (.t 9), none⟩,
    ⟨(some 4), .mov (.t 10), none⟩,
    ⟨(some 5), .mov (.t 11), none⟩]) <|
  .ret
def ir246 : IFn := ⟨12, [3], 2, [.tmp 4, .tmp 5], c246⟩
theorem ok246 : compFn prog [3] [] f246 = some ir246 := by kernel_rfl
theorem wp246 {a0 a1 : AV} {r : AV} (H : ∀ σ, WpI prog c246 (retQ [.tmp 4, .tmp 5] fun v s => v = r ∧ s = σ) (argE [a0, a1]) 0 σ) : Pure prog 246 [a0, a1] r := @pure_of_wp prog hm 246 f246 [3] [] ir246 [a0, a1] r func246 ok246 (Nat.le_of_ble_eq_true rfl) H
theorem wa246 {a0 a1 : AV} {σ : Heap} {R : AV → Heap → Prop} (H : WpI prog c246 (retQ [.tmp 4, .tmp 5] R) (argE [a0, a1]) 0 σ) : CallsA prog 246 [a0, a1] σ R := @callsA_of_wp prog [3] hm 246 f246 [] ir246 [a0, a1] σ R func246 ok246 (Nat.le_of_ble_eq_true rfl) H
/- tally.Get -/
def c179 : ICode :=
  .seq (.region 2 [⟨(some 3), .bbox 0 (.t 1), none⟩,
    ⟨(some 4), .mov (.c (.int 0)), none⟩]) <|
  .seq (.seq (.region 8 [⟨(some 8), .mov (.t 0), none⟩,
    ⟨(some 9), .load (some 3) 2 true (.b 3), none⟩,
    ⟨(some 10), .call (.c (.clo 246 [])) [(.t 8), (.t 9)], none⟩,
    ⟨(some 7), .mov (.t 10), none⟩,
    ⟨(some 11), .ext 0 (.t 7), none⟩,
    ⟨(some 12), .ext 1 (.t 7), none⟩,
    ⟨(some 5), .mov (.t 11), none⟩,
    ⟨(some 6), .mov (.t 12), none⟩]) <|
  .seq (.region 1 [⟨(some 13), .mov (.t 6), none⟩]) <|
  .cond (.t 13) (.seq (.region 6 [⟨(some 14), .mov (.t 0), none⟩,
    ⟨(some 15), .mov (.t 5), none⟩,
    ⟨(some 16), .iaddrS 3 (.t 14) (.t 15), none⟩,
    ⟨(some 17), .faddr none 2 (.t 16), none⟩,
    ⟨(some 18), .load none 1 false (.t 17), none⟩,
    ⟨(some 4), .mov (.t 18), none⟩]) <|
  .ret) (.skip)) <|
  .seq (.region 1 [⟨(some 4), .mov (.c (.int 0)), none⟩]) <|
  .ret
def ir179 : IFn := ⟨19, [3], 2, [.tmp 4], c179⟩
theorem ok179 : compFn prog [3] [] f179 = some ir179 := by kernel_rfl
theorem wp179 {a0 a1 : AV} {r : AV} (H : ∀ σ, WpI prog c179 (retQ [.tmp 4] fun v s => v = r ∧ s = σ) (argE [a0, a1]) 0 σ) : Pure prog 179 [a0, a1] r := @pure_of_wp prog hm 179 f179 [3] [] ir179 [a0, a1] r func179 ok179 (Nat.le_of_ble_eq_true rfl) H
theorem wa179 {a0 a1 : AV} {σ : Heap} {R : AV → Heap → Prop} (H : WpI prog c179 (retQ [.tmp 4] R) (argE [a0, a1]) 0 σ) : CallsA prog 179 [a0, a1] σ R := @callsA_of_wp prog [3] hm 179 f179 [] ir179 [a0, a1] σ R func179 ok179 (Nat.le_of_ble_eq_true rfl) H
/- tally.Seen -/
def c93 : ICode :=
  .seq (.region 2 [⟨(some 3), .bbox 0 (.t 1), none⟩,
    ⟨(some 4), .mov (.c (.bool false)), none⟩]) <|
  .seq (.region 6 [⟨(some 5), .mov (.t 0), none⟩,
    ⟨(some 6), .load (some 3) 2 true (.b 3), none⟩,
    ⟨(some 7), .call (.c (.clo 179 [])) [(.t 5), (.t 6)], none⟩,
    ⟨(some 8), .bin .rem (.t 7) (.c (.int 2)), none⟩,
    ⟨(some 9), .bin .eql (.t 8) (.c (.int 0)), none⟩,
    ⟨(some 4), .mov (.t 9), none⟩]) <|
  .ret
def ir93 : IFn := ⟨10, [3], 2, [.tmp 4], c93⟩
theorem ok93 : compFn prog [3] [] f93 = some ir93 := by kernel_rfl
theorem wp93 {a0 a1 : AV} {r : AV} (H : ∀ σ, WpI prog c93 (retQ [.tmp 4] fun v s => v = r ∧ s = σ) (argE [a0, a1]) 0 σ) : Pure prog 93 [a0, a1] r := @pure_of_wp prog hm 93 f93 [3] [] ir93 [a0, a1] r func93 ok93 (Nat.le_of_ble_eq_true rfl) H
theorem wa93 {a0 a1 : AV} {σ : Heap} {R : AV → Heap → Prop} (H : WpI prog c93 (retQ [.tmp 4] R) (argE [a0, a1]) 0 σ) : CallsA prog 93 [a0, a1] σ R := @callsA_of_wp prog [3] hm 93 f93 [] ir93 [a0, a1] σ R func93 ok93 (Nat.le_of_ble_eq_true rfl) H
/- dot.Right -/
def c199 : ICode :=
  .seq (.region 2 [⟨(some 1), .bbox 0 (.t 0), none⟩,
    ⟨(some 2), .mov (.c (.bool false)), none⟩]) <|
  .seq (.region 19 [⟨(some 3), .faddr (some 1) 0 (.b 1), none⟩,
    ⟨(some 4), .load (some 1) 1 false (.t 3), none⟩,
    ⟨(some 5), .bin .geq (.t 4) (.c (.int 0)), none⟩,
    ⟨(some 6), .mov (.t 5), none⟩,
    ⟨(some 7), .faddr (some 1) 0 (.b 1), (some (6, true))⟩,
    ⟨(some 8), .load (some 1) 1 false (.t 7), (some (6, true))⟩,
    ⟨(some 9), .bin .lss (.t 8) (.c (.int 16)), (some (6, true))⟩,
    ⟨(some 10), .pick (.t 6) (.t 9) (.c (.bool false)), none⟩,
    ⟨(some 11), .mov (.t 10), none⟩,
    ⟨(some 12), .faddr (some 1) 1 (.b 1), (some (11, true))⟩,
    ⟨(some 13), .load (some 1) 1 false (.t 12), (some (11, true))⟩,
    ⟨(some 14), .bin .geq (.t 13) (.c (.int 1)), (some (11, true))⟩,
    ⟨(some 15), .pick (.t 11) (.t 14) (.c (.bool false)), none⟩,
    ⟨(some 16), .mov (.t 15), none⟩,
    ⟨(some 17), .faddr (some 1) 1 (.b 1), (some (16, true))⟩,
    ⟨(some 18), .load (some 1) 1 false (.t 17), (some (16, true))⟩,
    ⟨(some 19), .bin .leq (.t 18) (.c (.int 1048576)), (some (16, true))⟩,
    ⟨(some 20), .pick (.t 16) (.t 19) (.c (.bool false)), none⟩,
    ⟨(some 2), .mov (.t 20), none⟩]) <|
  .ret
def ir199 : IFn := ⟨21, [1], 1, [.tmp 2], c199⟩
theorem ok199 : compFn prog [1] [] f199 = some ir199 := by kernel_rfl
theorem wp199 {a0 : AV} {r : AV} (H : ∀ σ, WpI prog c199 (retQ [.tmp 2] fun v s => v = r ∧ s = σ) (argE [a0]) 0 σ) : Pure prog 199 [a0] r := @pure_of_wp prog hm 199 f199 [1] [] ir199 [a0] r func199 ok199 (Nat.le_of_ble_eq_true rfl) H
theorem wa199 {a0 : AV} {σ : Heap} {R : AV → Heap → Prop} (H : WpI prog c199 (retQ [.tmp 2] R) (argE [a0]) 0 σ) : CallsA prog 199 [a0] σ R := @callsA_of_wp prog [1] hm 199 f199 [] ir199 [a0] σ R func199 ok199 (Nat.le_of_ble_eq_true rfl) H
/- vec.Has -/
def c247 : ICode :=
  .seq (.region 3 [⟨(some 2), .bbox 0 (.t 0), none⟩,
    ⟨(some 3), .bbox 1 (.t 1), none⟩,
    ⟨(some 4), .mov (.c (.bool false)), none⟩]) <|
  .seq (.region 12 [⟨(some 5), .load (some 3) 2 true (.b 3), none⟩,
    ⟨(some 6), .call (.c (.clo 199 [])) [(.t 5)], none⟩,
    ⟨(some 7), .mov (.t 6), none⟩,
    ⟨(some 8), .faddr (some 3) 1 (.b 3), (some (7, true))⟩,
    ⟨(some 9), .load (some 3) 1 false (.t 8), (some (7, true))⟩,
    ⟨(some 10), .faddr (some 3) 0 (.b 3), (some (7, true))⟩,
    ⟨(some 11), .load (some 3) 1 false (.t 10), (some (7, true))⟩,
    ⟨(some 12), .iaddrA (some 2) 16 1 (.b 2) (.t 11), (some (7, true))⟩,
    ⟨(some 13), .load (some 2) 1 false (.t 12), (some (7, true))⟩,
    ⟨(some 14), .bin .leq (.t 9) (.t 13), (some (7, true))⟩,
    ⟨(some 15), .pick (.t 7) (.t 14) (.c (.bool false)), none⟩,
    ⟨(some 4), .mov (.t 15), none⟩]) <|
  .ret
def ir247 : IFn := ⟨16, [2, 3], 2, [.tmp 4], c247⟩
theorem ok247 : compFn prog [2, 3] [] f247 = some ir247 := by kernel_rfl
theorem wp247 {a0 a1 : AV} {r : AV} (H : ∀ σ, WpI prog c247 (retQ [.tmp 4] fun v s => v = r ∧ s = σ) (argE [a0, a1]) 0 σ) : Pure prog 247 [a0, a1] r := @pure_of_wp prog hm 247 f247 [2, 3] [] ir247 [a0, a1] r func247 ok247 (Nat.le_of_ble_eq_true rfl) H
theorem wa247 {a0 a1 : AV} {σ : Heap} {R : AV → Heap → Prop} (H : WpI prog c247 (retQ [.tmp 4] R) (argE [a0, a1]) 0 σ) : CallsA prog 247 [a0, a1] σ R := @callsA_of_wp prog [2, 3] hm 247 f247 [] ir247 [a0, a1] σ R func247 ok247 (Nat.le_of_ble_eq_true rfl) H
/- dots.Has -/
def c180 : ICode :=
  .seq (.region 3 [⟨(some 2), .bbox 0 (.t 0), none⟩,
    ⟨(some 3), .bbox 1 (.t 1), none⟩,
    ⟨(some 4), .mov (.c (.bool false)), none⟩]) <|
  .seq (.seq (.region 4 [⟨(some 7), .faddr (some 2) 0 (.b 2), none⟩,
    ⟨(some 8), .load (some 2) 16 true (.t 7), none⟩,
    ⟨(some 9), .load (some 3) 2 true (.b 3), none⟩,
    ⟨(some 10), .call (.c (.clo 247 [])) [(.t 8), (.t 9)], none⟩]) <|
  .cond (.t 10) (.seq (.region 1 [⟨(some 4), .mov (.c (.bool true)), none⟩]) <|
  .ret) (.skip)) <|
  .seq (.region 9 [⟨(some 12), .faddr (some 2) 16 (.b 2), none⟩,
    ⟨(some 13), .load (some 2) 1 false (.t 12), none⟩,
    ⟨(some 14), .load (some 3) 2 true (.b 3), none⟩,
    ⟨(some 15), .call (.c (.clo 207 [])) [(.t 13), (.t 14), (.c (.clo 178 []))], none⟩,
    ⟨(some 11), .mov (.t 15), none⟩,
    ⟨(some 16), .ext 0 (.t 11), none⟩,
    ⟨(some 17), .ext 1 (.t 11), none⟩,
    ⟨(some 5), .mov (.t 16), none⟩,
    ⟨(some 6), .mov (.t 17), none⟩]) <|
  .seq (.region 2 [⟨(some 18), .mov (.t 6), none⟩,
    ⟨(some 4), .mov (.t 18), none⟩]) <|
  .ret
def ir180 : IFn := ⟨19, [2, 3], 2, [.tmp 4], c180⟩
theorem ok180 : compFn prog [2, 3] [] f180 = some ir180 := by kernel_rfl
theorem wp180 {a0 a1 : AV} {r : AV} (H : ∀ σ, WpI prog c180 (retQ [.tmp 4] fun v s => v = r ∧ s = σ) (argE [a0, a1]) 0 σ) : Pure prog 180 [a0, a1] r := @pure_of_wp prog hm 180 f180 [2, 3] [] ir180 [a0, a1] r func180 ok180 (Nat.le_of_ble_eq_true rfl) H
theorem wa180 {a0 a1 : AV} {σ : Heap} {R : AV → Heap → Prop} (H : WpI prog c180 (retQ [.tmp 4] R) (argE [a0, a1]) 0 σ) : CallsA prog 180 [a0, a1] σ R := @callsA_of_wp prog [2, 3] hm 180 f180 [] ir180 [a0, a1] σ R func180 ok180 (Nat.le_of_ble_eq_true rfl) H
/- op.Gone -/
def c181 : ICode :=
  .seq (.region 2 [⟨(some 1), .bbox 0 (.t 0), none⟩,
    ⟨(some 2), .mov (.c (.bool false)), none⟩]) <|
  .seq (.region 27 [⟨(some 3), .faddr (some 1) 0 (.b 1), none⟩,
    ⟨(some 4), .load (some 1) 1 false (.t 3), none⟩,
    ⟨(some 5), .bin .eql (.t 4) (.c (.int 0)), none⟩,
    ⟨(some 6), .mov (.t 5), none⟩,
    ⟨(some 7), .faddr (some 1) 1 (.b 1), (some (6, true))⟩,
    ⟨(some 8), .load (some 1) 1 false (.t 7), (some (6, true))⟩,
    ⟨(some 9), .len (.t 8), (some (6, true))⟩,
    ⟨(some 10), .bin .eql (.t 9) (.c (.int 0)), (some (6, true))⟩,
    ⟨(some 11), .pick (.t 6) (.t 10) (.c (.bool false)), none⟩,
    ⟨(some 12), .mov (.t 11), none⟩,
    ⟨(some 13), .faddr (some 1) 2 (.b 1), (some (12, true))⟩,
    ⟨(some 14), .load (some 1) 3 true (.t 13), (some (12, true))⟩,
    ⟨(some 15), .build (.agg [(.int 0), (.int 0), (.str ⟨#[]⟩)]) [], (some (12, true))⟩,
    ⟨(some 16), .eql false [.int .i64, .int .i64, .str] (.t 14) (.t 15), (some (12, true))⟩,
    ⟨(some 17), .pick (.t 12) (.t 16) (.c (.bool false)), none⟩,
    ⟨(some 18), .mov (.t 17), none⟩,
    ⟨(some 19), .faddr (some 1) 5 (.b 1), (some (18, true))⟩,
    ⟨(some 20), .load (some 1) 1 false (.t 19), (some (18, true))⟩,
    ⟨(some 21), .bin .eql (.t 20) (.c (.int 0)), (some (18, true))⟩,
    ⟨(some 22), .pick (.t 18) (.t 21) (.c (.bool false)), none⟩,
    ⟨(some 23), .mov (.t 22), none⟩,
    ⟨(some 24), .faddr (some 1) 6 (.b 1), (some (23, true))⟩,
    ⟨(some 25), .load (some 1) 1 false (.t 24), (some (23, true))⟩,
    ⟨(some 26), .len (.t 25), (some (23, true))⟩,
    ⟨(some 27), .bin .eql (.t 26) (.c (.int 0)), (some (23, true))⟩,
    ⟨(some 28), .pick (.t 23) (.t 27) (.c (.bool false)), none⟩,
    ⟨(some 2), .mov (.t 28), none⟩]) <|
  .ret
def ir181 : IFn := ⟨29, [1], 1, [.tmp 2], c181⟩
theorem ok181 : compFn prog [1] [] f181 = some ir181 := by kernel_rfl
theorem wp181 {a0 : AV} {r : AV} (H : ∀ σ, WpI prog c181 (retQ [.tmp 2] fun v s => v = r ∧ s = σ) (argE [a0]) 0 σ) : Pure prog 181 [a0] r := @pure_of_wp prog hm 181 f181 [1] [] ir181 [a0] r func181 ok181 (Nat.le_of_ble_eq_true rfl) H
theorem wa181 {a0 : AV} {σ : Heap} {R : AV → Heap → Prop} (H : WpI prog c181 (retQ [.tmp 2] R) (argE [a0]) 0 σ) : CallsA prog 181 [a0] σ R := @callsA_of_wp prog [1] hm 181 f181 [] ir181 [a0] σ R func181 ok181 (Nat.le_of_ble_eq_true rfl) H
/- history.row -/
def c78l0 : ICode :=
  .seq (.region 1 [⟨(some 34), .bin .lss (.t 33) (.t 32), none⟩]) <|
  .seq (.cond (.t 34) (.skip) (.exit 0)) <|
  .seq (.block 1 (.seq (.region 4 [⟨(some 35), .iaddrS 7 (.t 31) (.t 33), none⟩,
    ⟨(some 36), .load none 7 true (.t 35), none⟩,
    ⟨(some 7), .nbox 2 (.agg [(.int 0), .nils, (.int 0), (.int 0), (.str ⟨#[]⟩), (.int 0), .nils]), none⟩,
    ⟨none, .store (some 7) 7 (.b 7) (.t 36), none⟩]) <|
  .seq (.region 3 [⟨(some 37), .load (some 7) 7 true (.b 7), none⟩,
    ⟨(some 38), .call (.c (.clo 181 [])) [(.t 37)], none⟩,
    ⟨(some 39), .un .not (.t 38), none⟩]) <|
  .cond (.t 39) (.region 5 [⟨(some 40), .faddr (some 5) 4 (.b 5), none⟩,
    ⟨(some 41), .load (some 5) 1 false (.t 40), none⟩,
    ⟨(some 42), .bin .add (.t 41) (.c (.int 1)), none⟩,
    ⟨(some 43), .faddr (some 5) 4 (.b 5), none⟩,
    ⟨none, .store (some 5) 1 (.t 43) (.t 42), none⟩]) (.skip))) <|
  .region 2 [⟨(some 44), .bin .add (.t 33) (.c (.int 1)), none⟩,
    ⟨(some 33), .mov (.t 44), none⟩]
def c78 : ICode :=
  .seq (.region 3 [⟨(some 2), .bbox 0 (.t 0), none⟩,
    ⟨(some 3), .bbox 1 (.t 1), none⟩,
    ⟨(some 4), .nbox 2 (.agg [(.int 0), (.int 0), (.int 0), (.int 0), (.int 0), (.int 0), (.bool false), (.bool false)]), none⟩]) <|
  .seq (.region 24 [⟨(some 8), .faddr (some 3) 0 (.b 3), none⟩,
    ⟨(some 9), .load (some 3) 2 true (.t 8), none⟩,
    ⟨(some 10), .faddr (some 3) 2 (.b 3), none⟩,
    ⟨(some 11), .load (some 3) 1 false (.t 10), none⟩,
    ⟨(some 12), .faddr (some 3) 3 (.b 3), none⟩,
    ⟨(some 13), .load (some 3) 1 false (.t 12), none⟩,
    ⟨(some 14), .faddr (some 2) 1 (.b 2), none⟩,
    ⟨(some 15), .load (some 2) 1 false (.t 14), none⟩,
    ⟨(some 16), .faddr (some 3) 0 (.b 3), none⟩,
    ⟨(some 17), .load (some 3) 2 true (.t 16), none⟩,
    ⟨(some 18), .call (.c (.clo 179 [])) [(.t 15), (.t 17)], none⟩,
    ⟨(some 19), .faddr (some 2) 1 (.b 2), none⟩,
    ⟨(some 20), .load (some 2) 1 false (.t 19), none⟩,
    ⟨(some 21), .faddr (some 3) 0 (.b 3), none⟩,
    ⟨(some 22), .load (some 3) 2 true (.t 21), none⟩,
    ⟨(some 23), .call (.c (.clo 93 [])) [(.t 20), (.t 22)], none⟩,
    ⟨(some 24), .faddr (some 2) 19 (.b 2), none⟩,
    ⟨(some 25), .load (some 2) 17 true (.t 24), none⟩,
    ⟨(some 26), .faddr (some 3) 0 (.b 3), none⟩,
    ⟨(some 27), .load (some 3) 2 true (.t 26), none⟩,
    ⟨(some 28), .call (.c (.clo 180 [])) [(.t 25), (.t 27)], none⟩,
    ⟨(some 29), .build (.agg [(.int 0), (.int 0), (.int 0), (.int 0), (.int 0), (.int 0), (.bool false), (.bool false)]) [(0, 2, (.t 9)), (2, 1, (.t 11)), (3, 1, (.t 13)), (5, 1, (.t 18)), (6, 1, (.t 23)), (7, 1, (.t 28))], none⟩,
    ⟨(some 5), .nbox 22 (.agg [(.int 0), (.int 0), (.int 0), (.int 0), (.int 0), (.int 0), (.bool false), (.bool false)]), none⟩,
    ⟨none, .store (some 5) 8 (.b 5) (.t 29), none⟩]) <|
  .seq (.seq (.region 4 [⟨(some 30), .faddr (some 3) 5 (.b 3), none⟩,
    ⟨(some 31), .load (some 3) 1 false (.t 30), none⟩,
    ⟨(some 32), .len (.t 31), none⟩,
    ⟨(some 33), .mov (.c (.int 0)), none⟩]) <|
  .block 0 (.loop c78l0)) <|
  .seq (.region 2 [⟨(some 45), .load (some 5) 8 true (.b 5), none⟩,
    ⟨none, .store (some 4) 8 (.b 4) (.t 45), none⟩]) <|
  .ret
def ir78 : IFn := ⟨46, [2, 3, 4, 5, 7], 2, [.cell 4 8 true], c78⟩
theorem ok78 : compFn prog [2, 3, 4, 5, 7] [] f78 = some ir78 := by kernel_rfl
theorem wp78 {a0 a1 : AV} {r : AV} (H : ∀ σ, WpI prog c78 (retQ [.cell 4 8 true] fun v s => v = r ∧ s = σ) (argE [a0, a1]) 0 σ) : Pure prog 78 [a0, a1] r := @pure_of_wp prog hm 78 f78 [2, 3, 4, 5, 7] [] ir78 [a0, a1] r func78 ok78 (Nat.le_of_ble_eq_true rfl) H
theorem wa78 {a0 a1 : AV} {σ : Heap} {R : AV → Heap → Prop} (H : WpI prog c78 (retQ [.cell 4 8 true] R) (argE [a0, a1]) 0 σ) : CallsA prog 78 [a0, a1] σ R := @callsA_of_wp prog [2, 3, 4, 5, 7] hm 78 f78 [] ir78 [a0, a1] σ R func78 ok78 (Nat.le_of_ble_eq_true rfl) H


theorem undosRight_pw {l : List Undo} (h : undosRight l = true) : l.Pairwise fun a b => dlt a.D b.D := by
  simp only [undosRight, Bool.and_eq_true] at h; exact pw_dlt (g := Undo.D) h.2
theorem dotsRight_pw {s : Dots} (h : dotsRight s = true) : s.More.Pairwise dlt := by
  simp only [dotsRight, Bool.and_eq_true] at h; exact pw_dlt (g := id) h.2.2

theorem k_tallyAt (l : List Undo) (d : Dot) (hl : l.length ≤ 1000000) (h : l.Pairwise fun a b => dlt a.D b.D) :
    Pure prog 246 [encL 3 encUndo l, encDot d] (.tup [.int (lowB (fun y : Undo => decide (cmpDot y.D d < 0)) l), .bool (decide (∃ x ∈ l, x.D = d))]) := by
  have hb := k_bs_Undo l ⟨d, 0⟩ 211 (fun y x => cmpDot y.D x.D) hl (fun y => k_tallyCompare _ _) (down_dlt (g := Undo.D) h d)
  rw [found_dlt (g := Undo.D) h d] at hb
  refine wp246 fun σ => ?_
  unfold c246
  simp -dsimp (disch := first | omega | assumption) only [↓PB, ↓reduceIte, QB, QC, QD, QE, Nat.reduceAdd, Nat.reduceMul, Nat.reduceEqDiff, Nat.reduceLT, Nat.reduceLeDiff, reduceCtorEq, QF, QG, QH]
  repeat' (first
    | (with_reducible refine CallG.pure (hb) ?_)
    | (with_reducible refine CallQ.pure (hb) ?_)
    | (with_reducible refine condD (fun _ => ?_) (fun _ => ?_)) <;> try (exfalso; omega)
    | (with_reducible refine condB (fun _ => ?_) (fun _ => ?_))
    | (with_reducible refine guardD (fun _ => ?_) (fun _ => ?_)) <;> try (exfalso; omega)
    | (with_reducible refine guardB (fun _ => ?_) (fun _ => ?_))
    | (with_reducible refine app_row (by assumption) src_lst (by simp only [List.length_map, List.length_append, List.length_cons, List.length_nil]; omega) (by simp only [List.length_map, List.length_append, List.length_cons, List.length_nil]; omega) (fun _ _ => ?_))
    | (simp -dsimp (disch := first | omega | assumption) only [↓PB, ↓reduceIte, QB, QC, QD, QE, Nat.reduceAdd, Nat.reduceMul, Nat.reduceEqDiff, Nat.reduceLT, Nat.reduceLeDiff, reduceCtorEq, QF, QG, QH, *]))
  exact RetG.same ⟨rfl, rfl⟩

theorem k_tallyGet (l : List Undo) (d : Dot) (hl : l.length ≤ 1000000) (h : l.Pairwise fun a b => dlt a.D b.D) : Pure prog 179 [encL 3 encUndo l, encDot d] (.int (getU l d)) := by
  refine wp179 fun σ => ?_
  unfold c179
  simp -dsimp (disch := first | omega | assumption) only [↓PB, ↓reduceIte, QB, QC, QD, QE, Nat.reduceAdd, Nat.reduceMul, Nat.reduceEqDiff, Nat.reduceLT, Nat.reduceLeDiff, reduceCtorEq, QF, QG, QH]
  by_cases hf : ∃ x ∈ l, x.D = d
  · obtain ⟨hlt, hN, _⟩ := at_dlt h d hf
    repeat' (first
      | (with_reducible refine CallG.pure (k_tallyAt _ _ hl h) ?_)
      | (with_reducible refine CallQ.pure (k_tallyAt _ _ hl h) ?_)
      | (with_reducible refine condD (fun _ => ?_) (fun _ => ?_)) <;> try (exfalso; omega)
      | (with_reducible refine condB (fun _ => ?_) (fun _ => ?_))
      | (with_reducible refine guardD (fun _ => ?_) (fun _ => ?_)) <;> try (exfalso; omega)
      | (with_reducible refine guardB (fun _ => ?_) (fun _ => ?_))
      | (with_reducible refine app_row (by assumption) src_lst (by simp only [List.length_map, List.length_append, List.length_cons, List.length_nil]; omega) (by simp only [List.length_map, List.length_append, List.length_cons, List.length_nil]; omega) (fun _ _ => ?_))
      | (simp -dsimp (disch := first | omega | assumption) only [↓PB, ↓reduceIte, QB, QC, QD, QE, Nat.reduceAdd, Nat.reduceMul, Nat.reduceEqDiff, Nat.reduceLT, Nat.reduceLeDiff, reduceCtorEq, QF, QG, QH, *]))
    exact RetG.same ⟨by simp [t4, *], rfl⟩
  · have := getU_none hf
    repeat' (first
      | (with_reducible refine CallG.pure (k_tallyAt _ _ hl h) ?_)
      | (with_reducible refine CallQ.pure (k_tallyAt _ _ hl h) ?_)
      | (with_reducible refine condD (fun _ => ?_) (fun _ => ?_)) <;> try (exfalso; omega)
      | (with_reducible refine condB (fun _ => ?_) (fun _ => ?_))
      | (with_reducible refine guardD (fun _ => ?_) (fun _ => ?_)) <;> try (exfalso; omega)
      | (with_reducible refine guardB (fun _ => ?_) (fun _ => ?_))
      | (with_reducible refine app_row (by assumption) src_lst (by simp only [List.length_map, List.length_append, List.length_cons, List.length_nil]; omega) (by simp only [List.length_map, List.length_append, List.length_cons, List.length_nil]; omega) (fun _ _ => ?_))
      | (simp -dsimp (disch := first | omega | assumption) only [↓PB, ↓reduceIte, QB, QC, QD, QE, Nat.reduceAdd, Nat.reduceMul, Nat.reduceEqDiff, Nat.reduceLT, Nat.reduceLeDiff, reduceCtorEq, QF, QG, QH, *]))
    exact RetG.same ⟨by simp [t4, *], rfl⟩

theorem k_tallySeen (l : List Undo) (d : Dot) (hl : l.length ≤ 1000000) (h : l.Pairwise fun a b => dlt a.D b.D) : Pure prog 93 [encL 3 encUndo l, encDot d] (.bool (decide ((getU l d).tmod 2 = 0))) := by
  refine wp93 fun σ => ?_
  unfold c93
  simp -dsimp (disch := first | omega | assumption) only [↓PB, ↓reduceIte, QB, QC, QD, QE, Nat.reduceAdd, Nat.reduceMul, Nat.reduceEqDiff, Nat.reduceLT, Nat.reduceLeDiff, reduceCtorEq, QF, QG, QH]
  repeat' (first
    | (with_reducible refine CallG.pure (k_tallyGet _ _ hl h) ?_)
    | (with_reducible refine CallQ.pure (k_tallyGet _ _ hl h) ?_)
    | (with_reducible refine condD (fun _ => ?_) (fun _ => ?_)) <;> try (exfalso; omega)
    | (with_reducible refine condB (fun _ => ?_) (fun _ => ?_))
    | (with_reducible refine guardD (fun _ => ?_) (fun _ => ?_)) <;> try (exfalso; omega)
    | (with_reducible refine guardB (fun _ => ?_) (fun _ => ?_))
    | (with_reducible refine app_row (by assumption) src_lst (by simp only [List.length_map, List.length_append, List.length_cons, List.length_nil]; omega) (by simp only [List.length_map, List.length_append, List.length_cons, List.length_nil]; omega) (fun _ _ => ?_))
    | (simp -dsimp (disch := first | omega | assumption) only [↓PB, ↓reduceIte, QB, QC, QD, QE, Nat.reduceAdd, Nat.reduceMul, Nat.reduceEqDiff, Nat.reduceLT, Nat.reduceLeDiff, reduceCtorEq, QF, QG, QH, *]))
  exact RetG.same ⟨rfl, rfl⟩

theorem k_dotRight (d : Dot) : Pure prog 199 [encDot d] (.bool (dotRight d)) := by
  refine wp199 fun σ => ?_
  unfold c199
  simp -dsimp (disch := first | omega | assumption) only [↓PB, ↓reduceIte, QB, QC, QD, QE, Nat.reduceAdd, Nat.reduceMul, Nat.reduceEqDiff, Nat.reduceLT, Nat.reduceLeDiff, reduceCtorEq, QF, QG, QH]
  repeat' (first
    | (with_reducible refine condD (fun _ => ?_) (fun _ => ?_)) <;> try (exfalso; omega)
    | (with_reducible refine condB (fun _ => ?_) (fun _ => ?_))
    | (with_reducible refine guardD (fun _ => ?_) (fun _ => ?_)) <;> try (exfalso; omega)
    | (with_reducible refine guardB (fun _ => ?_) (fun _ => ?_))
    | (with_reducible refine app_row (by assumption) src_lst (by simp only [List.length_map, List.length_append, List.length_cons, List.length_nil]; omega) (by simp only [List.length_map, List.length_append, List.length_cons, List.length_nil]; omega) (fun _ _ => ?_))
    | (simp -dsimp (disch := first | omega | assumption) only [↓PB, ↓reduceIte, QB, QC, QD, QE, Nat.reduceAdd, Nat.reduceMul, Nat.reduceEqDiff, Nat.reduceLT, Nat.reduceLeDiff, reduceCtorEq, QF, QG, QH, *]))
  all_goals exact RetG.same ⟨by simp [t4, dotRight, *] <;> omega, rfl⟩

theorem k_vecHas (v : Vec) (d : Dot) : Pure prog 247 [encVec v, encDot d] (.bool (vecHas v d)) := by
  refine wp247 fun σ => ?_
  unfold c247
  simp -dsimp (disch := first | omega | assumption) only [↓PB, ↓reduceIte, QB, QC, QD, QE, Nat.reduceAdd, Nat.reduceMul, Nat.reduceEqDiff, Nat.reduceLT, Nat.reduceLeDiff, reduceCtorEq, QF, QG, QH]
  repeat' (first
    | (with_reducible refine CallG.pure (k_dotRight _) ?_)
    | (with_reducible refine CallQ.pure (k_dotRight _) ?_)
    | (with_reducible refine condD (fun _ => ?_) (fun _ => ?_)) <;> try (exfalso; omega)
    | (with_reducible refine condB (fun _ => ?_) (fun _ => ?_))
    | (with_reducible refine guardD (fun _ => ?_) (fun _ => ?_)) <;> try (exfalso; omega)
    | (with_reducible refine guardB (fun _ => ?_) (fun _ => ?_))
    | (with_reducible refine app_row (by assumption) src_lst (by simp only [List.length_map, List.length_append, List.length_cons, List.length_nil]; omega) (by simp only [List.length_map, List.length_append, List.length_cons, List.length_nil]; omega) (fun _ _ => ?_))
    | (simp -dsimp (disch := first | omega | assumption) only [↓PB, ↓reduceIte, QB, QC, QD, QE, Nat.reduceAdd, Nat.reduceMul, Nat.reduceEqDiff, Nat.reduceLT, Nat.reduceLeDiff, reduceCtorEq, QF, QG, QH, *]))
  all_goals exact RetG.same ⟨by simp [t4, vecHas, *], rfl⟩

theorem k_dotsHas (s : Dots) (d : Dot) (hl : s.More.length ≤ 1000000) (h : s.More.Pairwise dlt) : Pure prog 180 [encDots s, encDot d] (.bool (dotsHas s d)) := by
  have hb := k_bs_Dot s.More d 178 cmpDot hl (fun y => k_dotCompare _ _) (down_dlt (g := id) h d)
  have hf := found_dlt (g := id) h d
  simp only [id] at hf
  rw [hf] at hb
  refine wp180 fun σ => ?_
  unfold c180
  simp -dsimp (disch := first | omega | assumption) only [↓PB, ↓reduceIte, QB, QC, QD, QE, Nat.reduceAdd, Nat.reduceMul, Nat.reduceEqDiff, Nat.reduceLT, Nat.reduceLeDiff, reduceCtorEq, QF, QG, QH]
  repeat' (first
    | (with_reducible refine CallG.pure (k_vecHas _ _) ?_)
    | (with_reducible refine CallQ.pure (k_vecHas _ _) ?_)
    | (with_reducible refine CallG.pure (hb) ?_)
    | (with_reducible refine CallQ.pure (hb) ?_)
    | (with_reducible refine condD (fun _ => ?_) (fun _ => ?_)) <;> try (exfalso; omega)
    | (with_reducible refine condB (fun _ => ?_) (fun _ => ?_))
    | (with_reducible refine guardD (fun _ => ?_) (fun _ => ?_)) <;> try (exfalso; omega)
    | (with_reducible refine guardB (fun _ => ?_) (fun _ => ?_))
    | (with_reducible refine app_row (by assumption) src_lst (by simp only [List.length_map, List.length_append, List.length_cons, List.length_nil]; omega) (by simp only [List.length_map, List.length_append, List.length_cons, List.length_nil]; omega) (fun _ _ => ?_))
    | (simp -dsimp (disch := first | omega | assumption) only [↓PB, ↓reduceIte, QB, QC, QD, QE, Nat.reduceAdd, Nat.reduceMul, Nat.reduceEqDiff, Nat.reduceLT, Nat.reduceLeDiff, reduceCtorEq, QF, QG, QH, *]))
  all_goals exact RetG.same ⟨by simp [t4, dotsHas, *], rfl⟩

theorem k_opGone (o : Opn) : Pure prog 181 [encOpn o] (.bool (opGone o)) := by
  refine wp181 fun σ => ?_
  unfold c181
  simp -dsimp (disch := first | omega | assumption) only [↓PB, ↓reduceIte, QB, QC, QD, QE, Nat.reduceAdd, Nat.reduceMul, Nat.reduceEqDiff, Nat.reduceLT, Nat.reduceLeDiff, reduceCtorEq, QF, QG, QH]
  repeat' (first
    | (with_reducible refine condD (fun _ => ?_) (fun _ => ?_)) <;> try (exfalso; omega)
    | (with_reducible refine condB (fun _ => ?_) (fun _ => ?_))
    | (with_reducible refine guardD (fun _ => ?_) (fun _ => ?_)) <;> try (exfalso; omega)
    | (with_reducible refine guardB (fun _ => ?_) (fun _ => ?_))
    | (with_reducible refine app_row (by assumption) src_lst (by simp only [List.length_map, List.length_append, List.length_cons, List.length_nil]; omega) (by simp only [List.length_map, List.length_append, List.length_cons, List.length_nil]; omega) (fun _ _ => ?_))
    | (simp -dsimp (disch := first | omega | assumption) only [↓PB, ↓reduceIte, QB, QC, QD, QE, Nat.reduceAdd, Nat.reduceMul, Nat.reduceEqDiff, Nat.reduceLT, Nat.reduceLeDiff, reduceCtorEq, QF, QG, QH, zv, *]))
  all_goals exact RetG.same ⟨by simp [t4, opGone, *], rfl⟩

def rowN (s : State) (t : Txn) (n : Int) : Row := ⟨t.D, t.User, t.Time, n, getU s.Undos t.D, decide ((getU s.Undos t.D).tmod 2 = 0), dotsHas s.Sealed t.D⟩
def rowOf_ (s : State) (t : Txn) : Row := rowN s t ((t.Ops.filter fun o => !opGone o).length : Nat)

theorem k_historyRow (s : State) (t : Txn) (h1 : s.Undos.length ≤ 1000000) (h2 : s.Undos.Pairwise fun a b => dlt a.D b.D) (h3 : s.Sealed.More.length ≤ 1000000) (h4 : s.Sealed.More.Pairwise dlt) (h5 : t.Ops.length ≤ 1000000) : Pure prog 78 [encState s, encTxn t] (encRow (rowOf_ s t)) := by
  refine wp78 fun σ => ?_
  unfold c78
  simp -dsimp (disch := first | omega | assumption) only [↓PB, ↓reduceIte, QB, QC, QD, QE, Nat.reduceAdd, Nat.reduceMul, Nat.reduceEqDiff, Nat.reduceLT, Nat.reduceLeDiff, reduceCtorEq, QF, QG, QH]
  repeat' (first
    | (with_reducible refine CallG.pure (k_tallyGet _ _ h1 h2) ?_)
    | (with_reducible refine CallQ.pure (k_tallyGet _ _ h1 h2) ?_)
    | (with_reducible refine CallG.pure (k_tallySeen _ _ h1 h2) ?_)
    | (with_reducible refine CallQ.pure (k_tallySeen _ _ h1 h2) ?_)
    | (with_reducible refine CallG.pure (k_dotsHas _ _ h3 h4) ?_)
    | (with_reducible refine CallQ.pure (k_dotsHas _ _ h3 h4) ?_)
    | (with_reducible refine condD (fun _ => ?_) (fun _ => ?_)) <;> try (exfalso; omega)
    | (with_reducible refine condB (fun _ => ?_) (fun _ => ?_))
    | (with_reducible refine guardD (fun _ => ?_) (fun _ => ?_)) <;> try (exfalso; omega)
    | (with_reducible refine guardB (fun _ => ?_) (fun _ => ?_))
    | (with_reducible refine app_row (by assumption) src_lst (by simp only [List.length_map, List.length_append, List.length_cons, List.length_nil]; omega) (by simp only [List.length_map, List.length_append, List.length_cons, List.length_nil]; omega) (fun _ _ => ?_))
    | (simp -dsimp (disch := first | omega | assumption) only [↓PB, ↓reduceIte, QB, QC, QD, QE, Nat.reduceAdd, Nat.reduceMul, Nat.reduceEqDiff, Nat.reduceLT, Nat.reduceLeDiff, reduceCtorEq, QF, QG, QH, *]))
  refine loop_p t.Ops.length (fun i e => e 33 = .int i ∧ e 5 = .box 25 (encRow (rowN s t (((t.Ops.take i).filter fun o => !opGone o).length : Nat)))) 0 (by omega) ⟨by simp -dsimp (disch := first | omega | assumption) only [↓PB, ↓reduceIte, QB, QC, QD, QE, Nat.reduceAdd, Nat.reduceMul, Nat.reduceEqDiff, Nat.reduceLT, Nat.reduceLeDiff, reduceCtorEq, QF, QG, QH, *] <;> rfl, by simp -dsimp (disch := first | omega | assumption) only [↓PB, ↓reduceIte, QB, QC, QD, QE, Nat.reduceAdd, Nat.reduceMul, Nat.reduceEqDiff, Nat.reduceLT, Nat.reduceLeDiff, reduceCtorEq, QF, QG, QH, *] <;> rfl⟩ ?_
  rintro i e n hi ha ⟨h33, h5'⟩
  have g4 := ha 4 (by decide)
  have g31 := ha 31 (by decide)
  have g32 := ha 32 (by decide)
  simp -dsimp (disch := first | omega | assumption) only [↓PB, ↓reduceIte, QB, QC, QD, QE, Nat.reduceAdd, Nat.reduceMul, Nat.reduceEqDiff, Nat.reduceLT, Nat.reduceLeDiff, reduceCtorEq, QF, QG, QH, *] at g4 g31 g32
  clear ha
  unfold c78l0
  by_cases hlt : i < t.Ops.length
  · have hk : (((t.Ops.take (i + 1)).filter fun o => !opGone o).length : Nat) = ((t.Ops.take i).filter fun o => !opGone o).length + (if opGone t.Ops[i] then 0 else 1) := by
      rw [List.take_succ_eq_append_getElem hlt, List.filter_append, List.length_append]
      cases hg : opGone t.Ops[i] <;> simp [List.filter_cons, hg]
    have hkb : ((t.Ops.take i).filter fun o => !opGone o).length ≤ i := Nat.le_trans (List.length_filter_le _ _) (by simp; omega)
    repeat' (first
      | (with_reducible refine CallG.pure (k_opGone _) ?_)
      | (with_reducible refine CallQ.pure (k_opGone _) ?_)
      | (with_reducible refine condD (fun _ => ?_) (fun _ => ?_)) <;> try (exfalso; omega)
      | (with_reducible refine condB (fun _ => ?_) (fun _ => ?_))
      | (with_reducible refine guardD (fun _ => ?_) (fun _ => ?_)) <;> try (exfalso; omega)
      | (with_reducible refine guardB (fun _ => ?_) (fun _ => ?_))
      | (with_reducible refine app_row (by assumption) src_lst (by simp only [List.length_map, List.length_append, List.length_cons, List.length_nil]; omega) (by simp only [List.length_map, List.length_append, List.length_cons, List.length_nil]; omega) (fun _ _ => ?_))
      | (simp -dsimp (disch := first | omega | assumption) only [↓PB, ↓reduceIte, QB, QC, QD, QE, Nat.reduceAdd, Nat.reduceMul, Nat.reduceEqDiff, Nat.reduceLT, Nat.reduceLeDiff, reduceCtorEq, QF, QG, QH, *]))
    · rw [if_pos (by assumption)] at hk
      first | (simp [hk]; done) | exact ⟨by simp, by simp [hk]⟩
    · rw [if_neg (by simp [*])] at hk
      refine ⟨by simp, ?_⟩
      try rw [hk]
      simp only [rowN]
      rw [wr (by omega) (by omega)]; simp
  · repeat' (first
      | (with_reducible refine CallG.pure (k_opGone _) ?_)
      | (with_reducible refine CallQ.pure (k_opGone _) ?_)
      | (with_reducible refine condD (fun _ => ?_) (fun _ => ?_)) <;> try (exfalso; omega)
      | (with_reducible refine condB (fun _ => ?_) (fun _ => ?_))
      | (with_reducible refine guardD (fun _ => ?_) (fun _ => ?_)) <;> try (exfalso; omega)
      | (with_reducible refine guardB (fun _ => ?_) (fun _ => ?_))
      | (with_reducible refine app_row (by assumption) src_lst (by simp only [List.length_map, List.length_append, List.length_cons, List.length_nil]; omega) (by simp only [List.length_map, List.length_append, List.length_cons, List.length_nil]; omega) (fun _ _ => ?_))
      | (simp -dsimp (disch := first | omega | assumption) only [↓PB, ↓reduceIte, QB, QC, QD, QE, Nat.reduceAdd, Nat.reduceMul, Nat.reduceEqDiff, Nat.reduceLT, Nat.reduceLeDiff, reduceCtorEq, QF, QG, QH, *]))
    rw [List.take_of_length_le (by omega)]
    exact RetG.same ⟨rfl, rfl⟩
end Go.Av

namespace Go.Proofs
open Go.Shelf
def Tryz.lays156_ren : Go.Shelf.Ren := ⟨fun | 156 => 87 | 165 => 186 | 166 => 83 | 169 => 84 | 240 => 184 | 241 => 251 | 276 => 249 | 277 => 306 | n => n, fun | 31 => 122 | 9 => 9 | 3 => 3 | 4 => 4 | 0 => 0 | 20 => 20 | 72 => 133 | 76 => 136 | 70 => 130 | 37 => 131 | 75 => 135 | 127 => 207 | 164 => 257 | 5 => 5 | 80 => 138 | n => n, fun | n => n⟩
theorem Tryz.lays156 : Go.Proofs.Lays.n156 Tryz.prog Tryz.lays156_ren := {
  mixed := by kernel_rfl
  f156 := Tryz.func87.trans (congrArg some (by kernel_rfl))
  f165 := Tryz.func186.trans (congrArg some (by kernel_rfl))
  f166 := Tryz.func83.trans (congrArg some (by kernel_rfl))
  f169 := Tryz.func84.trans (congrArg some (by kernel_rfl))
  f240 := Tryz.func184.trans (congrArg some (by kernel_rfl))
  f241 := Tryz.func251.trans (congrArg some (by kernel_rfl))
  f276 := Tryz.func249.trans (congrArg some (by kernel_rfl))
  f277 := Tryz.func306.trans (congrArg some (by kernel_rfl))
  t0 := Tryz.underlying0
  a0 := Tryz.isAgg0
  z0 := Tryz.sizeOf0
  v0 := Tryz.zeroValue0
  t3 := Tryz.underlying3
  a3 := Tryz.isAgg3
  z3 := Tryz.sizeOf3
  v3 := Tryz.zeroValue3
  t4 := Tryz.underlying4
  a4 := Tryz.isAgg4
  z4 := Tryz.sizeOf4
  v4 := Tryz.zeroValue4
  t9 := Tryz.underlying9
  a9 := Tryz.isAgg9
  z9 := Tryz.sizeOf9
  v9 := Tryz.zeroValue9
  t20 := Tryz.underlying20
  a20 := Tryz.isAgg20
  z20 := Tryz.sizeOf20
  v20 := Tryz.zeroValue20
  t31 := Tryz.underlying122
  a31 := Tryz.isAgg122
  z31 := Tryz.sizeOf122
  v31 := Tryz.zeroValue122
  t37 := Tryz.underlying131
  a37 := Tryz.isAgg131
  z37 := Tryz.sizeOf131
  v37 := Tryz.zeroValue131
  t70 := Tryz.underlying130
  a70 := Tryz.isAgg130
  z70 := Tryz.sizeOf130
  v70 := Tryz.zeroValue130
  t72 := Tryz.underlying133
  a72 := Tryz.isAgg133
  z72 := Tryz.sizeOf133
  v72 := Tryz.zeroValue133
  t75 := Tryz.underlying135
  a75 := Tryz.isAgg135
  z75 := Tryz.sizeOf135
  v75 := Tryz.zeroValue135
  t76 := Tryz.underlying136
  a76 := Tryz.isAgg136
  z76 := Tryz.sizeOf136
  v76 := Tryz.zeroValue136
  t127 := Tryz.underlying207
  a127 := Tryz.isAgg207
  z127 := Tryz.sizeOf207
  v127 := Tryz.zeroValue207
  t164 := Tryz.underlying257
  a164 := Tryz.isAgg257
  z164 := Tryz.sizeOf257
  v164 := Tryz.zeroValue257 }
def Tryz.laysM171_ren : Go.Shelf.Ren := ⟨fun | 171 => 85 | 243 => 185 | 246 => 250 | 283 => 302 | 284 => 303 | 285 => 304 | 286 => 305 | 129 => 300 | 317 => 332 | 318 => 333 | 319 => 334 | 320 => 335 | 337 => 346 | 338 => 347 | n => n, fun | 3 => 3 | 9 => 9 | 2 => 2 | 4 => 4 | 171 => 299 | 0 => 0 | 53 => 297 | 37 => 131 | 5 => 5 | 173 => 301 | 212 => 319 | 51 => 245 | 20 => 20 | 213 => 320 | 46 => 238 | 232 => 337 | 233 => 338 | n => n, fun | 17 => 0 | 18 => 2 | 19 => 3 | n => n⟩
theorem Tryz.laysM171 : Go.Proofs.LaysM.n171 Tryz.prog Tryz.laysM171_ren := {
  mixed := by kernel_rfl
  f129 := Tryz.func300.trans (congrArg some (by kernel_rfl))
  f171 := Tryz.func85.trans (congrArg some (by kernel_rfl))
  f243 := Tryz.func185.trans (congrArg some (by kernel_rfl))
  f246 := Tryz.func250.trans (congrArg some (by kernel_rfl))
  f283 := Tryz.func302.trans (congrArg some (by kernel_rfl))
  f284 := Tryz.func303.trans (congrArg some (by kernel_rfl))
  f285 := Tryz.func304.trans (congrArg some (by kernel_rfl))
  f286 := Tryz.func305.trans (congrArg some (by kernel_rfl))
  f317 := Tryz.func332.trans (congrArg some (by kernel_rfl))
  f318 := Tryz.func333.trans (congrArg some (by kernel_rfl))
  f319 := Tryz.func334.trans (congrArg some (by kernel_rfl))
  f320 := Tryz.func335.trans (congrArg some (by kernel_rfl))
  f337 := Tryz.func346.trans (congrArg some (by kernel_rfl))
  f338 := Tryz.func347.trans (congrArg some (by kernel_rfl))
  t0 := Tryz.underlying0
  a0 := Tryz.isAgg0
  z0 := Tryz.sizeOf0
  v0 := Tryz.zeroValue0
  t2 := Tryz.underlying2
  a2 := Tryz.isAgg2
  z2 := Tryz.sizeOf2
  v2 := Tryz.zeroValue2
  t3 := Tryz.underlying3
  a3 := Tryz.isAgg3
  z3 := Tryz.sizeOf3
  v3 := Tryz.zeroValue3
  t4 := Tryz.underlying4
  a4 := Tryz.isAgg4
  z4 := Tryz.sizeOf4
  v4 := Tryz.zeroValue4
  t5 := Tryz.underlying5
  a5 := Tryz.isAgg5
  z5 := Tryz.sizeOf5
  v5 := Tryz.zeroValue5
  t9 := Tryz.underlying9
  a9 := Tryz.isAgg9
  z9 := Tryz.sizeOf9
  v9 := Tryz.zeroValue9
  t20 := Tryz.underlying20
  a20 := Tryz.isAgg20
  z20 := Tryz.sizeOf20
  v20 := Tryz.zeroValue20
  t37 := Tryz.underlying131
  a37 := Tryz.isAgg131
  z37 := Tryz.sizeOf131
  v37 := Tryz.zeroValue131
  t46 := Tryz.underlying238
  a46 := Tryz.isAgg238
  z46 := Tryz.sizeOf238
  v46 := Tryz.zeroValue238
  t51 := Tryz.underlying245
  a51 := Tryz.isAgg245
  z51 := Tryz.sizeOf245
  v51 := Tryz.zeroValue245
  t53 := Tryz.underlying297
  a53 := Tryz.isAgg297
  z53 := Tryz.sizeOf297
  v53 := Tryz.zeroValue297
  t171 := Tryz.underlying299
  a171 := Tryz.isAgg299
  z171 := Tryz.sizeOf299
  v171 := Tryz.zeroValue299
  t173 := Tryz.underlying301
  a173 := Tryz.isAgg301
  z173 := Tryz.sizeOf301
  v173 := Tryz.zeroValue301
  t212 := Tryz.underlying319
  a212 := Tryz.isAgg319
  z212 := Tryz.sizeOf319
  v212 := Tryz.zeroValue319
  t213 := Tryz.underlying320
  a213 := Tryz.isAgg320
  z213 := Tryz.sizeOf320
  t232 := Tryz.underlying337
  a232 := Tryz.isAgg337
  z232 := Tryz.sizeOf337
  v232 := Tryz.zeroValue337
  t233 := Tryz.underlying338
  a233 := Tryz.isAgg338
  z233 := Tryz.sizeOf338
  v233 := Tryz.zeroValue338
  g17 := by kernel_rfl
  g18 := by kernel_rfl
  g19 := by kernel_rfl
  i0 := by kernel_rfl
  i2 := by kernel_rfl
  i3 := by kernel_rfl
  i4 := by kernel_rfl
  i5 := by kernel_rfl
  i9 := by kernel_rfl
  i20 := by kernel_rfl
  i37 := by kernel_rfl
  i46 := by kernel_rfl
  i51 := by kernel_rfl
  i53 := by kernel_rfl
  i171 := by kernel_rfl
  i173 := by kernel_rfl
  i212 := by kernel_rfl
  i232 := by kernel_rfl
  i233 := by kernel_rfl
  m17 := by kernel_rfl
  m18 := by kernel_rfl
  m19 := by kernel_rfl }
theorem Tryz.Builder_Extra_156 : Builder.Extra Tryz.prog Tryz.lays156_ren := {
  sizeBuilder := by kernel_rfl
  liesBuilder := by kernel_rfl
  t5 := Tryz.underlying5
  a5 := Tryz.isAgg5
  z5 := Tryz.sizeOf5
  v5 := Tryz.zeroValue5
  infoByte := by kernel_rfl
  cellsByte := by kernel_rfl
  sizeByte := by kernel_rfl
  neB5 := by decide }
def Tryz.laysSort_ren : Go.Shelf.Ren := ⟨fun | 6 => 174 | 15 => 244 | 14 => 243 | 28 => 299 | 29 => 300 | 20 => 291 | 21 => 292 | 22 => 293 | 23 => 294 | 24 => 295 | 25 => 296 | 26 => 297 | 27 => 298 | 46 => 327 | 47 => 328 | 48 => 329 | 49 => 330 | 50 => 331 | 57 => 345 | n => n, fun | 22 => 22 | 24 => 61 | 25 => 119 | 3 => 3 | 39 => 238 | 0 => 0 | 53 => 245 | 55 => 297 | 4 => 4 | 46 => 290 | 45 => 289 | 50 => 218 | 5 => 5 | 9 => 9 | 66 => 312 | 70 => 316 | 76 => 332 | 77 => 304 | n => n, fun | n => n⟩
theorem Tryz.laysSort : Go.Proofs.SlLaysF0.n6 Tryz.prog Tryz.laysSort_ren := {
  mixed := by kernel_rfl
  f6 := ⟨Tryz.f174.name, by decide, Tryz.func174.trans (congrArg some (by kernel_rfl))⟩
  f14 := ⟨Tryz.f243.name, by decide, Tryz.func243.trans (congrArg some (by kernel_rfl))⟩
  f15 := Tryz.func244.trans (congrArg some (by kernel_rfl))
  f20 := ⟨Tryz.f291.name, by decide, Tryz.func291.trans (congrArg some (by kernel_rfl))⟩
  f21 := ⟨Tryz.f292.name, by decide, Tryz.func292.trans (congrArg some (by kernel_rfl))⟩
  f22 := ⟨Tryz.f293.name, by decide, Tryz.func293.trans (congrArg some (by kernel_rfl))⟩
  f23 := ⟨Tryz.f294.name, by decide, Tryz.func294.trans (congrArg some (by kernel_rfl))⟩
  f24 := ⟨Tryz.f295.name, by decide, Tryz.func295.trans (congrArg some (by kernel_rfl))⟩
  f25 := ⟨Tryz.f296.name, by decide, Tryz.func296.trans (congrArg some (by kernel_rfl))⟩
  f26 := ⟨Tryz.f297.name, by decide, Tryz.func297.trans (congrArg some (by kernel_rfl))⟩
  f27 := ⟨Tryz.f298.name, by decide, Tryz.func298.trans (congrArg some (by kernel_rfl))⟩
  f28 := Tryz.func299.trans (congrArg some (by kernel_rfl))
  f29 := Tryz.func300.trans (congrArg some (by kernel_rfl))
  f46 := ⟨Tryz.f327.name, by decide, Tryz.func327.trans (congrArg some (by kernel_rfl))⟩
  f47 := Tryz.func328.trans (congrArg some (by kernel_rfl))
  f48 := Tryz.func329.trans (congrArg some (by kernel_rfl))
  f49 := ⟨Tryz.f330.name, by decide, Tryz.func330.trans (congrArg some (by kernel_rfl))⟩
  f50 := ⟨Tryz.f331.name, by decide, Tryz.func331.trans (congrArg some (by kernel_rfl))⟩
  f57 := ⟨Tryz.f345.name, by decide, Tryz.func345.trans (congrArg some (by kernel_rfl))⟩
  t0 := Tryz.underlying0
  a0 := Tryz.isAgg0
  z0 := Tryz.sizeOf0
  v0 := Tryz.zeroValue0
  t3 := Tryz.underlying3
  a3 := Tryz.isAgg3
  z3 := Tryz.sizeOf3
  v3 := Tryz.zeroValue3
  t4 := Tryz.underlying4
  a4 := Tryz.isAgg4
  z4 := Tryz.sizeOf4
  v4 := Tryz.zeroValue4
  t5 := Tryz.underlying5
  a5 := Tryz.isAgg5
  z5 := Tryz.sizeOf5
  v5 := Tryz.zeroValue5
  t9 := Tryz.underlying9
  a9 := Tryz.isAgg9
  z9 := Tryz.sizeOf9
  v9 := Tryz.zeroValue9
  t22 := Tryz.underlying22
  a22 := Tryz.isAgg22
  z22 := Tryz.sizeOf22
  v22 := Tryz.zeroValue22
  t25 := Tryz.underlying119
  a25 := Tryz.isAgg119
  z25 := Tryz.sizeOf119
  v25 := Tryz.zeroValue119
  t39 := Tryz.underlying238
  a39 := Tryz.isAgg238
  z39 := Tryz.sizeOf238
  v39 := Tryz.zeroValue238
  t45 := Tryz.underlying289
  a45 := Tryz.isAgg289
  z45 := Tryz.sizeOf289
  v45 := Tryz.zeroValue289
  t46 := Tryz.underlying290
  a46 := Tryz.isAgg290
  z46 := Tryz.sizeOf290
  v46 := Tryz.zeroValue290
  t50 := Tryz.underlying218
  a50 := Tryz.isAgg218
  z50 := Tryz.sizeOf218
  v50 := Tryz.zeroValue218
  t53 := Tryz.underlying245
  a53 := Tryz.isAgg245
  z53 := Tryz.sizeOf245
  v53 := Tryz.zeroValue245
  t55 := Tryz.underlying297
  a55 := Tryz.isAgg297
  z55 := Tryz.sizeOf297
  v55 := Tryz.zeroValue297
  t66 := Tryz.underlying312
  a66 := Tryz.isAgg312
  z66 := Tryz.sizeOf312
  v66 := Tryz.zeroValue312
  t70 := Tryz.underlying316
  a70 := Tryz.isAgg316
  z70 := Tryz.sizeOf316
  v70 := Tryz.zeroValue316
  t76 := Tryz.underlying332
  a76 := Tryz.isAgg332
  z76 := Tryz.sizeOf332
  v76 := Tryz.zeroValue332
  t77 := Tryz.underlying304
  a77 := Tryz.isAgg304
  z77 := Tryz.sizeOf304
  v77 := Tryz.zeroValue304 }
end Go.Proofs

namespace Go.Proofs
open Go.RowKit Go.Shelf

attribute [local go_sem] Oper.semAt_some

structure TX where
  a : Int
  b : Int
  c : Int
  d : Int
  t : Bool
  p : Option Addr
  n : Nat
  cap : Nat

def TX.cells (x : TX) : List Value := [.int .i64 x.a, .int .i64 x.b, .int .i64 x.c, .int .i64 x.d, .bool x.t, .slice x.p x.n x.cap]
abbrev TX.val (x : TX) : Value := .agg #[.int .i64 x.a, .int .i64 x.b, .int .i64 x.c, .int .i64 x.d, .bool x.t, .slice x.p x.n x.cap]

/-- The cells of the row's elements lie in a block below. -/
def TxRow (W : World) (k o : Nat) (xs : List TX) : Prop := ∀ i x, xs[i]? = some x → ∀ j c, x.cells[j]? = some c → W.cell? ⟨k, o + i * 6 + j, none⟩ = some c

theorem TxRow.below {n₀ : Nat} {A B : World} (h : Below n₀ A B) {k o : Nat} {xs : List TX} (hk : k < n₀) (hr : TxRow A k o xs) : TxRow B k o xs :=
  fun i x hx j c hc => (h.cell (p := ⟨k, o + i * 6 + j, none⟩) hk).trans (hr i x hx j c hc)

set_option maxRecDepth 100000 in
set_option maxHeartbeats 2000000 in
theorem vals_in (F : Fence) (n : Nat) (h7 : F.fn 175) (hro : F.round = none) (hn : 1 ≤ n) (l Bs n₀ k o cap : Nat) (xs : List TX) (hreach : xs.length ≤ 1000000000) (hb : k < n₀) (J Jx : List TX → World → Prop) (hJ : ∀ pre W (o : Obj), J pre W → J pre (W.alloc o))
    (hY : ∀ pre x W, J pre W → pre.length < xs.length → YieldAt F (n - 1) Tryz.prog l #[x.val] W fun e W' =>
      (e = .returned (.bool true) ∧ J (pre ++ [x]) W' ∧ Below n₀ W W') ∨ (e = .returned (.bool false) ∧ Jx (pre ++ [x]) W'))
    (W : World) (hn₀ : n₀ ≤ W.heap.size) (hBs : W.cell? ⟨Bs, 0, none⟩ = some (.slice (some ⟨k, o, none⟩) xs.length cap)) (hc : TxRow W k o xs) (h0 : J [] W) :
    CallsIn F n Tryz.prog 175 #[.func (.yield l) #[] #[], .pointer (some ⟨Bs, 0, none⟩)] W fun e W' => (∃ v, e = .returned v) ∧
      ((∃ ys, ys = xs ∧ J ys W') ∨ (∃ pre, pre <+: xs ∧ Jx pre W')) := by
  refine callsIn_of_wp Tryz.func175 rfl h7 ?_ hro
  simp only [Tryz.ntmps175, List.size_toArray, List.length_cons, List.length_nil, Nat.reduceAdd, Nat.reduceSub, Array.replicate_succ, Array.replicate_zero, List.push_toArray, List.append_toArray, List.nil_append, List.cons_append]
  gi_wp2
  gi_loopw [7] (fun i wr => ∃ k : Nat, k ≤ xs.length ∧ i = .int .i64 k ∧ J (xs.take k) wr ∧ Below n₀ W wr)
    (fun i _ => xs.length - (intOf i).toNat)
  case atStart => exact ⟨0, Nat.zero_le _, rfl, h0, Below.refl _ _⟩
  case round =>
    obtain ⟨i, hi, rfl, hJs, hnx⟩ := hrel
    by_cases hlt : i < xs.length
    · obtain ⟨x, hx⟩ : ∃ x, xs[i]? = some x := ⟨xs[i], List.getElem?_eq_getElem hlt⟩
      have hx2 : xs[i] = x := (List.getElem?_eq_some_iff.1 hx).2
      have hcx := hc.below hnx hb i x hx
      have hsz : n₀ ≤ wr.heap.size := Nat.le_trans hn₀ hnx.size
      have c0 := hcx 0 _ rfl; have c1 := hcx 1 _ rfl; have c2 := hcx 2 _ rfl
      have c3 := hcx 3 _ rfl; have c4 := hcx 4 _ rfl; have c5 := hcx 5 _ rfl
      rw [Nat.add_zero] at c0
      clear hcx
      have hJa := hJ _ _ (.cells #[.int .i64 x.a, .int .i64 x.b, .int .i64 x.c, .int .i64 x.d, .bool x.t, .slice x.p x.n x.cap] 61) hJs
      have hBa := hnx.alloc hsz (.cells #[.int .i64 x.a, .int .i64 x.b, .int .i64 x.c, .int .i64 x.d, .bool x.t, .slice x.p x.n x.cap] 61)
      obtain ⟨fn, tmps, assign, body, hy, hR⟩ := hY _ x _ hJa (by rw [List.length_take]; omega)
      have htk : xs.take i ++ [x] = xs.take (i + 1) := by rw [List.take_succ_eq_append_getElem hlt, hx2]
      rw [htk] at hR
      clear hJ hY htk
      gi_wp2
      refine hR.mono ?_
      rintro e W3 (⟨rfl, hJ3, hk3⟩ | ⟨rfl, hJx3⟩)
      · gi_wp2
        go_roundw
        case rel => exact ⟨i + 1, by omega, by simp, hJ3, hBa.trans hk3⟩
        case measure => simp [intOf]; omega
      · gi_wp2
        refine bodyPost_ret (results_none rfl _ _ _) rfl ?_
        exact ⟨⟨_, rfl⟩, .inr ⟨_, List.take_prefix _ _, hJx3⟩⟩
    · obtain rfl : i = xs.length := by omega
      rw [List.take_length] at hJs
      gi_wp2
      go_end0
      exact ⟨⟨_, rfl⟩, .inl ⟨_, rfl, hJs⟩⟩

set_option maxRecDepth 100000 in
set_option maxHeartbeats 1000000 in
theorem vals_nil_in (F : Fence) (n : Nat) (h7 : F.fn 175) (hro : F.round = none) (l Bs : Nat) (q : Option Addr) (cap : Nat) (J : List TX → World → Prop) (W : World) (hBs : W.cell? ⟨Bs, 0, none⟩ = some (.slice q 0 cap)) (h0 : J [] W) :
    CallsIn F n Tryz.prog 175 #[.func (.yield l) #[] #[], .pointer (some ⟨Bs, 0, none⟩)] W fun e W' => (∃ v, e = .returned v) ∧ J [] W' := by
  refine callsIn_of_wp Tryz.func175 rfl h7 ?_ hro
  simp only [Tryz.ntmps175, List.size_toArray, List.length_cons, List.length_nil, Nat.reduceAdd, Nat.reduceSub, Array.replicate_succ, Array.replicate_zero, List.push_toArray, List.append_toArray, List.nil_append, List.cons_append]
  gi_wp2
  gi_loopw [7] (fun i wr => i = .int .i64 0 ∧ J [] wr) (fun _ _ => 0)
  case atStart => exact ⟨rfl, h0⟩
  case round =>
    obtain ⟨rfl, hJs⟩ := hrel
    gi_wp2
    go_end0
    exact ⟨⟨_, rfl⟩, hJs⟩

/-- The slice sv holds xs, in a block below n₀. -/
def TxSlice (n₀ : Nat) (W : World) (sv : Value) (xs : List TX) : Prop :=
  (∃ q cap, sv = .slice q 0 cap ∧ xs = []) ∨ ∃ k o cap, sv = .slice (some ⟨k, o, none⟩) xs.length cap ∧ k < n₀ ∧ TxRow W k o xs
theorem TxSlice.below {n₀ : Nat} {A B : World} (h : Below n₀ A B) {sv : Value} {xs : List TX} : TxSlice n₀ A sv xs → TxSlice n₀ B sv xs
  | .inl e => .inl e
  | .inr ⟨b, off, cap, e, hb, hc⟩ => .inr ⟨b, off, cap, e, hb, hc.below h hb⟩

theorem vals_stops (F : Fence) (n : Nat) (h7 : F.fn 175) (hro : F.round = none) (hn : 1 ≤ n) (Bs n₀ : Nat) (sv : Value) (xs : List TX) (hreach : xs.length ≤ 1000000000) (w : World) (hBs : Bs < w.heap.size) (hn₀ : n₀ ≤ w.heap.size)
    (hc : w.cell? ⟨Bs, 0, none⟩ = some sv) (hI : TxSlice n₀ w sv xs) :
    SeqStopsK F n Tryz.prog 175 #[.pointer (some ⟨Bs, 0, none⟩)] (fun x : TX => #[x.val]) (Below n₀) (fun ys => ys = xs) (fun pre => pre <+: xs) xs.length w := fun l J Jx W hW hJ _ hY h0 => by
  have hc' := (hW.cell (p := ⟨Bs, 0, none⟩) hBs).trans hc
  rcases hI.below (hW.mono hn₀) with ⟨q, cap, rfl, rfl⟩ | ⟨k, o, cap, rfl, hb, hcs⟩
  · exact (vals_nil_in F n h7 hro l Bs q cap J W hc' h0).mono fun e W' ⟨he, hj⟩ => ⟨he, .inl ⟨_, rfl, hj⟩⟩
  · exact vals_in F n h7 hro hn l Bs n₀ k o cap xs hreach hb J Jx (fun pre W o h => hJ pre W _ none h (World.grownBy_alloc W o none) (fun r e => by cases e)) hY W (Nat.le_trans hn₀ hW.size) hc' hcs h0

theorem infoTxn : (Tryz.prog.info? 61).map (fun i => (i.zero, i.size, i.bytes)) = some (some (.agg #[.int .i64 0, .int .i64 0, .int .i64 0, .int .i64 0, .bool false, .slice none 0 0]), 6, 64) := by kernel_rfl

def txFlat (xs : List TX) : List Value := xs.flatMap TX.cells

set_option maxRecDepth 100000 in
set_option maxHeartbeats 4000000 in
theorem appendSeq_in (F : Fence) (n : Nat) (h3 : F.fn 242) (h5 : F.fn 175) (hro : F.round = none) (hn : 3 ≤ n) (Bs : Nat) (sv : Value) (xs : List TX) (hlen : xs.length ≤ 1000000000) (w : World) (hBs : Bs < w.heap.size)
    (hbx : w.cell? ⟨Bs, 0, none⟩ = some sv) (hL : TxSlice w.heap.size w sv xs) :
    CallsIn F n Tryz.prog 242 #[.slice none 0 0, .func (.func 175) #[] #[.pointer (some ⟨Bs, 0, none⟩)]] w
      fun e W' => ∃ v, e = .returned v ∧ W'.ownsRow w.heap.size 61 6 v xs.length (txFlat xs) ∧ Below w.heap.size w W' := by
  have h1 : 1 ≤ n := by omega
  obtain ⟨i0, hi, hz0, hz1, hz2⟩ := info_parts infoTxn
  refine callsIn_of_wp_marks Tryz.func242 rfl h3 ?_ hro
  simp only [Tryz.ntmps242, List.size_toArray, List.length_cons, List.length_nil, Nat.reduceAdd, Nat.reduceSub, Array.replicate_succ, Array.replicate_zero, List.push_toArray, List.append_toArray, List.nil_append, List.cons_append]
  gi_wp2
  have bO := Boxed.new w 22 (.slice none 0 0)
  have hB0 : Below w.heap.size w (w.alloc (.cells #[.slice none 0 0] 22)) := (Below.refl _ w).alloc (Nat.le_refl _) _
  refine wpIn_rangeFunc_ownH hro h1 (gf := 175) (lb := #[.pointer (some ⟨Bs, 0, none⟩)]) rfl h5 (enters_of Tryz.func175 (by kernel_rfl) rfl)
    (vals_stops F (n - 1) h5 hro (by omega) Bs w.heap.size sv xs hlen _ (by simp; omega) (by simp) ((hB0.cell (p := ⟨Bs, 0, none⟩) hBs).trans hbx) (hL.below hB0)) belowK_t (belowK_b (by simp)) (Below.refl _ _) (fun _ => rfl)
    (fun pre W => (∃ v, Boxed W w.heap.size 22 v ∧ W.ownsRow w.heap.size 61 6 v pre.length (txFlat pre) ∧ True) ∧ Below w.heap.size w W)
    (fun _ _ _ => False)
    (OwnFrom.and (Own.from (holdsRow_own w.heap.size w.heap.size 22 61 6 (fun pre : List TX => pre.length) (fun pre => txFlat pre) (fun pre v => True)) _) (ownFrom_below (Nat.le_refl _) (by simp)))
    (fun _ _ _ _ _ hs _ _ => hs)
    ⟨⟨_, bO, World.ownsRow_nil _ _ _ _, trivial⟩, hB0⟩
    (fun x a' W => ∃ B', a' = { tmps := #[.slice none 0 0, .func (.func 175) #[] #[.pointer (some ⟨Bs, 0, none⟩)], .pointer (some ⟨w.heap.size, 0, none⟩), undef, .slice none 0 0, .pointer (some ⟨B', 0, none⟩), .func (.func 175) #[] #[.pointer (some ⟨Bs, 0, none⟩)], x.val, undef, undef, undef, undef, undef], defers := [] } ∧
      W.heap[B']? = some (.cells #[.int .i64 x.a, .int .i64 x.b, .int .i64 x.c, .int .i64 x.d, .bool x.t, .slice x.p x.n x.cap] 61))
    (fun x a' s X Y row ⟨B', ha, hx⟩ hg hrow => ⟨B', ha, (hg.block B' (Array.getElem?_eq_some_iff.1 hx).1 (fun e => by obtain ⟨_, o, ho, hc⟩ := hrow B' e.symm; rw [hx] at ho; cases ho; cases hc)).trans hx⟩)
    ?assign ?body ?done ?stop
  case assign =>
    rintro l pre x W K ⟨⟨v, hv, hrow, -⟩, hB⟩ hK
    gi_wp2
    exact hK _ _ ((KeepsOthers.alloc W _).from _) ((Below.refl _ W).alloc hB.size _) ⟨⟨v, hv.alloc _, hrow.alloc _, trivial⟩, hB.alloc hB.size _⟩ ⟨_, rfl, World.alloc_heap_new W _⟩
  case body =>
    rintro l pre x a' W hl _ ⟨⟨v, hv, hrow, -⟩, hB⟩ ⟨B', rfl, hx⟩ hlt
    have hc := hv.cell
    have c0 : W.cell? ⟨B', 0, none⟩ = some (.int .i64 x.a) := by simp [World.cell?, hx]
    have c1 : W.cell? ⟨B', 1, none⟩ = some (.int .i64 x.b) := by simp [World.cell?, hx]
    have c2 : W.cell? ⟨B', 2, none⟩ = some (.int .i64 x.c) := by simp [World.cell?, hx]
    have c3 : W.cell? ⟨B', 3, none⟩ = some (.int .i64 x.d) := by simp [World.cell?, hx]
    have c4 : W.cell? ⟨B', 4, none⟩ = some (.bool x.t) := by simp [World.cell?, hx]
    have c5 : W.cell? ⟨B', 5, none⟩ = some (.slice x.p x.n x.cap) := by simp [World.cell?, hx]
    have hfl : txFlat (pre ++ [x]) = txFlat pre ++ x.cells := by simp [txFlat]
    have hnc : ∀ j u, x.cells[j]? = some u → (W.alloc (.cells #[.int .i64 x.a, .int .i64 x.b, .int .i64 x.c, .int .i64 x.d, .bool x.t, .slice x.p x.n x.cap] 61)).cell? ((⟨W.heap.size, 0, none⟩ : Addr).add j) = some u := by
      intro j u hu
      have hadd : (⟨W.heap.size, 0, none⟩ : Addr).add j = ⟨W.heap.size, j, none⟩ := by unfold Addr.add; split <;> simp_all
      rw [hadd]
      simp only [World.cell?, World.alloc_heap_new]
      simpa [TX.cells] using hu
    have hone : ∀ u ∈ x.cells, u.oneCell' = true := by
      intro u hu
      simp only [TX.cells, List.mem_cons, List.not_mem_nil, or_false] at hu
      rcases hu with rfl | rfl | rfl | rfl | rfl | rfl <;> rfl
    gi_wp2_with (gi_at_builtin; refine wpListIn_append_own _ rfl _ _ 22 rfl w.heap.size 61 i0 (.agg #[.int .i64 0, .int .i64 0, .int .i64 0, .int .i64 0, .bool false, .slice none 0 0]) 6 64 Tryz.underlying22 hi hz0 hz1 hz2 rfl (by decide) _ _ _ rfl (hrow.alloc _) ⟨W.heap.size, 0, none⟩ 1 1 x.cells rfl rfl hnc hone (by unfold maxLen; omega) (by omega) (by have := hB.size; simp; omega) ?_; intro v' w1 hown' hgrow _; obtain ⟨g', cap', rfl⟩ := ownsRow_succ hown'; obtain ⟨hv1, hv2, hr2, hk2, hb2⟩ := hv.appended (by decide) hrow hB.size (Nat.le_refl _) hown' hgrow; have hc1 := hv1.cell; have hf1 := hv1.frozen)
    exact ⟨hk2.from _, hb2, ⟨_, hv2, by rw [hfl]; simpa using hr2, trivial⟩, hB.trans hb2⟩
  case done =>
    rintro D ys W hD rfl ⟨⟨v, hv, hrow, -⟩, hB⟩ hK
    have hc := hv.cell
    gi_wp2
    refine ⟨by simp, .inl ⟨_, _, rfl, run_takeDeferred hK, ?_⟩⟩
    exact ⟨_, results_tmp rfl _ _ _, v, rfl, ownsRow_putObj hrow _ hK rfl, hB.trans (belowK_b (w := w) (Nat.le_refl _) W D _ _ (by simp at hD; omega) hK rfl rfl)⟩
  case stop =>
    rintro D c pre W _ _ h _
    exact h.elim

theorem appendSeq_calls (Bs : Nat) (sv : Value) (xs : List TX) (hlen : xs.length ≤ 1000000000) (w : World) (hBs : Bs < w.heap.size)
    (hbx : w.cell? ⟨Bs, 0, none⟩ = some sv) (hL : TxSlice w.heap.size w sv xs) :
    Calls Tryz.prog 242 #[.slice none 0 0, .func (.func 175) #[] #[.pointer (some ⟨Bs, 0, none⟩)]] w
      fun e W' => ∃ v, e = .returned v ∧ W'.ownsRow w.heap.size 61 6 v xs.length (txFlat xs) ∧ Below w.heap.size w W' :=
  calls_of_every_depth (L := [242, 175]) (n := 3) fun D => appendSeq_in _ 3 (show 242 ∈ [242, 175] by decide) (show 175 ∈ [242, 175] by decide) rfl (by decide) Bs sv xs hlen w hBs hbx hL

set_option maxHeartbeats 1000000 in
theorem collect_calls (Bs : Nat) (sv : Value) (xs : List TX) (hlen : xs.length ≤ 1000000000) (w : World) (hBs : Bs < w.heap.size)
    (hbx : w.cell? ⟨Bs, 0, none⟩ = some sv) (hL : TxSlice w.heap.size w sv xs) :
    Calls Tryz.prog 173 #[.func (.func 175) #[] #[.pointer (some ⟨Bs, 0, none⟩)]] w
      fun e W' => ∃ v, e = .returned v ∧ W'.ownsRow w.heap.size 61 6 v xs.length (txFlat xs) ∧ Below w.heap.size w W' := by
  have hcon := appendSeq_calls Bs sv xs hlen w hBs hbx hL
  clear hbx hL
  have e242 : ∀ args w, (callFunc 242 args).run Tryz.prog w = .ok (.enter 242 args) w := enters_of Tryz.func242 (by kernel_rfl) rfl
  go_enter Tryz.func173, Tryz.ntmps173
  go_wp2_with fail
  refine hcon.mono ?_
  rintro e w1 ⟨v, rfl, h1, h2⟩
  have H1 := Any.hidJ h1
  have H2 := Any.hidJ h2
  clear h1 h2
  go_wp2
  go_ret
  exact ⟨_, rfl, H1.out, H2.out⟩
end Go.Proofs

namespace Go.Av
open Go.Shelf Go.RowKit Go.Lib Go.Sort Go.Proofs
set_option linter.unusedVariables false

/-! slices.SortFunc, over the shelf's contract. -/

section
variable {P : Program} {ρ : Ren} {F K : Nat → Prop} {μ μ' : Nat → Option Spot} {w w' : World} {σ : Heap}

theorem world_grow {w w' : World} (h1 : w'.os = w.os) (h2 : w'.tape = w.tape) (h3 : w'.output = w.output) (h4 : w.drawn ≤ w'.drawn) (h5 : w.heap.size ≤ w'.heap.size) (h6 : ∀ k, k < w.heap.size → w'.heap[k]? = w.heap[k]?) :
    ∃ q os, w' = grow (w.drewN q) os := by
  refine ⟨w'.drawn - w.drawn, w'.heap.extract w.heap.size w'.heap.size, ?_⟩
  obtain ⟨hp, tp, dr, os, ou⟩ := w'
  obtain ⟨hp0, tp0, dr0, os0, ou0⟩ := w
  simp only at h1 h2 h3 h4 h5 h6
  subst h1 h2 h3
  have hd : dr0 + (dr - dr0) = dr := by omega
  have hh : hp = hp0 ++ hp.extract hp0.size hp.size := by
    apply Array.ext_getElem?
    intro i
    by_cases hi : i < hp0.size
    · rw [h6 i hi, Array.getElem?_append_left hi]
    · rw [Array.getElem?_append_right (by omega), Array.getElem?_extract]
      by_cases hi2 : i < hp.size
      · rw [if_pos (by omega)]; congr 1; omega
      · rw [if_neg (by omega), Array.getElem?_eq_none (by omega)]
  simp only [grow, World.drewN]
  rw [hd, ← hh]

/-- A value that names no block of the heap. -/
inductive Nr : AV → Prop
  | sc (v : Value) : Nr (.sc v)
  | nils : Nr .nils
  | agg (cs : List AV) (h : ∀ i (hi : i < cs.length), Nr cs[i]) : Nr (.agg cs)
  | lst (sz : Nat) (es : List AV) (h : ∀ i (hi : i < es.length), Nr es[i]) : Nr (.lst sz es)

theorem RV_nr {a : AV} {v : Value} (hn : Nr a) : RV F μ w a v → RV F μ' w a v := by
  induction hn generalizing v with
  | sc x => intro h; cases h; exact .sc _ ‹_›
  | nils => intro h; cases h; exact .nils _
  | agg cs h ih => intro hv; cases hv with | agg _ vs hl h1 h' => exact .agg cs vs hl h1 fun i hi hj => ih i hi (h' i hi hj)
  | lst sz es h ih =>
    intro hv
    cases hv with
    | lstE => exact .lstE _ _ _
    | lst _ _ k o cap vs hk hc hfl hs hcell hall => exact .lst sz es k o cap vs hk hc hfl hs hcell fun i hi => ih i hi (hall i hi)

/-- What a contract of a function that leaves the heap alone says of a call, in whatever world. -/
theorem pure_grow {g : FuncId} {args : List AV} {x : Value} {vs : List Value} (h : Pure P g args (.sc x)) (hn : ∀ a ∈ args, Nr a) (eg : ∀ xs w, (callFunc g xs).run P w = .ok (.enter g xs) w)
    (hF : ∀ k, F k → k < w.heap.size) (hv : RVs F μ w args vs) :
    Calls P g vs.toArray w fun e w' => e = .returned x ∧ ∃ q os, w' = grow (w.drewN q) os := by
  have hinv : Inv F (fun k => k < w.heap.size ∧ ¬ F k) (fun b => if b = 0 then some ⟨0, 0, 0⟩ else none) (fun _ => none) w :=
    ⟨fun b o hb => (by cases hb), fun b b' sp sp' hb => absurd rfl hb, fun b sp hb => absurd rfl hb, fun k hk => hk.2, hF, fun k hk => hk.1, 1, fun b hb => ⟨if_neg (by omega), rfl⟩⟩
  have hv' : RVs F (fun b => if b = 0 then some ⟨0, 0, 0⟩ else none) w args vs := ⟨hv.1, fun i hi hj => RV_nr (hn _ (List.getElem_mem hi)) (hv.2 i hi hj)⟩
  have hc := h (fun _ => none) F _ _ w vs hv' hinv
  unfold CallSem at hc
  rw [eg] at hc
  refine hc.mono ?_
  rintro e w' ⟨v, rfl, r, σ', F', μ', ⟨rfl, rfl⟩, hrv, _, hext⟩
  have := sc_inv hrv
  subst this
  refine ⟨rfl, world_grow hext.os hext.tape hext.output (hext.dr rfl) hext.size fun k hk => hext.keep k ?_⟩
  by_cases hf : F k
  · exact .inl hf
  · exact .inr ⟨hk, hf⟩

theorem Ext.later (h1 : w'.os = w.os) (h2 : w'.tape = w.tape) (h3 : w'.output = w.output) (h4 : w.drawn ≤ w'.drawn) (h5 : w.heap.size ≤ w'.heap.size) (h6 : ∀ k, F k ∨ K k → w'.heap[k]? = w.heap[k]?) : Ext F K μ w F μ w' :=
  ⟨h1, h2, h3, fun _ => h4, h5, fun _ h => h, fun _ _ h => h, h6⟩

/-- One live block is turned, others come behind. -/
theorem Inv.turn (h : Inv F K μ σ w) {b : Nat} {sp : Spot} {blk : Blk} (hb : σ b ≠ none) (hs : μ b = some sp) (he : Ext F K μ w F μ w') (ho : ∀ k, k < w.heap.size → k ≠ sp.k → w'.heap[k]? = w.heap[k]?)
    (hn : BlkRel F μ w' b blk) : Inv F K μ (upd σ b (some blk)) w' := by
  have lv : ∀ c, (upd σ b (some blk)) c ≠ none → σ c ≠ none := by
    intro c hc
    by_cases hcb : c = b
    · subst hcb; exact hb
    · rw [upd_ne _ _ hcb] at hc; exact hc
  refine ⟨fun c ob hc => ?_, fun c c' s s' h1 h2 => h.inj c c' s s' (lv c h1) (lv c' h2), fun c s h1 => h.nof c s (lv c h1), h.sep, fun k hk => Nat.lt_of_lt_of_le (h.bdF k hk) he.size, fun k hk => Nat.lt_of_lt_of_le (h.bdK k hk) he.size, ?_⟩
  · by_cases hcb : c = b
    · subst hcb; rw [upd_same] at hc; cases hc; exact hn
    · rw [upd_ne _ _ hcb] at hc
      refine (h.blk c ob hc).ext he (fun s hs' => ho _ (h.lt (by rw [hc]; simp) hs') fun ek => hcb (h.inj c b s sp (by rw [hc]; simp) hb hs' hs ek)) id
  · obtain ⟨N, hN⟩ := h.fin
    refine ⟨N, fun c hc => ⟨(hN c hc).1, ?_⟩⟩
    have : c ≠ b := fun e => by subst e; rw [(hN c hc).1] at hs; cases hs
    rw [upd_ne _ _ this]; exact (hN c hc).2

/-- A world of the sort's. -/
theorem sortWorld_at {α : Type} [Inhabited α] {enc : α → List Value} {k n : Nat} {d' : Array α} {os : Array Obj} {blk : Nat} {arr : Array Value} {e : TypeId} (hb : w.heap[blk]? = some (.cells arr e (0, 0))) :
    (sortWorldK enc k w blk 0 n d' os).heap[blk]? = some (.cells (putCells id 0 (flatK enc k d') arr) e (0, 0)) ∧ (∀ j, j < w.heap.size → j ≠ blk → (sortWorldK enc k w blk 0 n d' os).heap[j]? = w.heap[j]?) ∧
    w.heap.size ≤ (sortWorldK enc k w blk 0 n d' os).heap.size ∧ (sortWorldK enc k w blk 0 n d' os).os = w.os ∧ (sortWorldK enc k w blk 0 n d' os).tape = w.tape ∧ (sortWorldK enc k w blk 0 n d' os).output = w.output ∧ w.drawn ≤ (sortWorldK enc k w blk 0 n d' os).drawn := by
  have hlt := (Array.getElem?_eq_some_iff.1 hb).1
  refine ⟨?_, fun j hj hne => ?_, ?_, rfl, rfl, rfl, Nat.le_add_right _ _⟩
  · simp only [sortWorldK, grow, putRowK, putRow, mapBlock]
    rw [Array.getElem?_append_left (by simpa [Sort.ahead] using hlt), Array.getElem?_modify, if_pos rfl]
    simp only [Sort.ahead, hb, Option.map_some, onCells]
  · simp only [sortWorldK, grow, putRowK, putRow, mapBlock]
    rw [Array.getElem?_append_left (by simpa [Sort.ahead] using hj), Array.getElem?_modify, if_neg (Ne.symm hne)]
    rfl
  · exact size_sortWorldK_c enc k w blk 0 n d' os

end
end Go.Av

namespace Go.Av
open Go.Shelf Go.RowKit Go.Lib Go.Sort Go.Proofs
set_option linter.unusedVariables false

/-! strconv.Itoa and strings.Join, over the shelf's contracts. -/

section
variable {P : Program} {ρ : Ren} {F K : Nat → Prop} {μ μ' : Nat → Option Spot} {w w' : World} {σ : Heap}

theorem inv_below (hinv : Inv F K μ σ w) (h0 : μ 0 = none) (hb : Below w.heap.size w w') : Inv F K μ σ w' ∧ Ext F K μ w F μ w' := by
  have he : Ext F K μ w F μ w' := ⟨hb.os, hb.tape, hb.output, fun h => (by rw [h0] at h; cases h), hb.size, fun _ h => h, fun _ _ h => h, fun k hk => hb.block k (hk.elim (hinv.bdF k) (hinv.bdK k))⟩
  refine ⟨⟨fun b o hbo => (hinv.blk b o hbo).ext he (fun s hs => hb.block _ (hinv.lt (by rw [hbo]; simp) hs)) id, hinv.inj, hinv.nof, hinv.sep, fun k hk => Nat.lt_of_lt_of_le (hinv.bdF k hk) he.size, fun k hk => Nat.lt_of_lt_of_le (hinv.bdK k hk) he.size, hinv.fin⟩, he⟩

/-- A contract of a function that leaves what is there alone: its answer a value that names no block. -/
theorem at_below {f : FuncId} {args : List AV} {x : Value} (hx : x.oneCell' = true) (ef : ∀ xs w, (callFunc f xs).run P w = .ok (.enter f xs) w) {g : Nat} {cs : List Value} (h0 : σ 0 = some (.glob g cs))
    (h : ∀ F K μ w vs, RVs F μ w args vs → Inv F K μ σ w → (∃ e fr, w.heap[g]? = some (.cells cs.toArray e fr)) → Calls P f vs.toArray w fun e w' => e = .returned x ∧ Below w.heap.size w w') : PureAt P f args σ (.sc x) := by
  intro F K μ w vs hvs hinv
  obtain ⟨hm, _, hg⟩ := hinv.blk 0 _ h0
  unfold CallSem
  rw [ef]
  refine (h F K μ w vs hvs hinv hg).mono ?_
  rintro e w' ⟨rfl, hb⟩
  obtain ⟨hi, he⟩ := inv_below hinv hm hb
  exact ⟨x, rfl, .sc x, σ, F, μ, ⟨rfl, rfl⟩, .sc x hx, hi, he⟩

theorem below_grow (w : World) (k : Nat) (os : Array Obj) : Below w.heap.size w (grow (w.drewN k) os) :=
  ⟨rfl, rfl, rfl, by simp [grow, World.drewN], fun j hj => by simp only [grow, World.drewN]; rw [Array.getElem?_append_left hj]⟩

/-- The name of the table that Itoa reads. -/
def itoaTab : { nm : String // ∀ {P : Program} {ρ : Ren}, LaysM.n171 P ρ → ∀ (n : Int), -9223372036854775808 ≤ n → n ≤ 9223372036854775807 → ∀ w : World, Lib.TabIs P w nm .u64 Lib.pow10Tab →
    Calls P (ρ.f 171) #[.int .i64 n] w fun e w' => e = .returned (.string ⟨(Lib.itoa n).toArray⟩) ∧ ∃ k os, w' = grow (w.drewN k) os } :=
  ⟨_, fun L n h0 h1 w h => Any.strconv_Itoa L n h0 h1 w h⟩

def pow10V : List Value := Lib.pow10Tab.map fun z => Value.int .u64 z

def itoaB (n : Int) : ByteArray := ⟨(Lib.itoa n).toArray⟩

theorem itoa_at (L : LaysM.n171 P ρ) {g : Nat} (hg : P.globalNamed itoaTab.1 = some g) {n : Int} (h1 : -9223372036854775808 ≤ n) (h2 : n ≤ 9223372036854775807) (h0 : σ 0 = some (.glob g pow10V)) :
    PureAt P (ρ.f 171) [.int n] σ (.str (itoaB n)) := by
  refine at_below rfl (enters_of L.f171 (by kernel_rfl) rfl) h0 ?_
  rintro F K μ w vs hvs hinv ⟨e, fr, hgl⟩
  obtain ⟨v, rfl⟩ : ∃ v, vs = [v] := by
    have := hvs.1
    match vs, this with
    | [a], _ => exact ⟨a, rfl⟩
  have h0 : RV F μ w (.int n) v := hvs.2 0 (by simp) (by simp)
  obtain rfl := sc_inv h0
  refine (itoaTab.2 L n h1 h2 w ?_).mono ?_
  · simp only [Lib.TabIs, World.var?, hg, Option.bind_some, hgl]; rfl
  · rintro e w' ⟨rfl, k, os, rfl⟩
    exact ⟨rfl, below_grow w k os⟩

def joinB (xs : List ByteArray) (sep : ByteArray) : ByteArray := ⟨(Lib.join (xs.map (·.data.toList)) sep.data.toList).toArray⟩

theorem join_at (L : Lays.n156 P ρ) (X : Builder.Extra P ρ) {g : Nat} {tab : List Value} {xs : List ByteArray} {sep : ByteArray} {b : Nat} (h0 : σ 0 = some (.glob g tab)) (hb : σ b = some (.row 1 (xs.map .str)))
    (hN : xs.length ≤ 140737488355328) (hlen : (joinB xs sep).size ≤ 140737488355328) :
    PureAt P (ρ.f 156) [.row 1 b 0 xs.length, .str sep] σ (.str (joinB xs sep)) := by
  refine at_below rfl (enters_of L.f156 (by kernel_rfl) rfl) h0 ?_
  rintro F K μ w vs hvs hinv -
  obtain ⟨v, v', rfl⟩ : ∃ v v', vs = [v, v'] := by
    have := hvs.1
    match vs, this with
    | [a, b], _ => exact ⟨a, b, rfl⟩
  have g0 : RV F μ w (.row 1 b 0 xs.length) v := hvs.2 0 (by simp) (by simp)
  have g1 : RV F μ w (.str sep) v' := hvs.2 1 (by simp) (by simp)
  obtain rfl := sc_inv g1
  have hlen' : (Lib.join (xs.map (·.data.toList)) sep.data.toList).length ≤ 140737488355328 := by
    simpa [joinB, ByteArray.size] using hlen
  obtain ⟨n, hn⟩ : ∃ n, n = xs.length := ⟨_, rfl⟩
  rw [← hn] at g0
  cases g0 with
  | rowE _ _ _ a =>
    have hx := List.eq_nil_of_length_eq_zero hn.symm
    subst hx
    refine (Any.strings_Join_none L X a 0 sep w).mono ?_
    rintro e w' ⟨rfl, rfl⟩
    exact ⟨rfl, Below.refl _ _⟩
  | row _ _ _ _ cap sp hμ hsp hnc hcp =>
    subst hn
    rcases hinv.blk b _ hb with ⟨hx, _⟩ | ⟨sp', arr, et, g1, g2, g3, g4, g5, g6, vsf, a1, a2, a3⟩
    · have hx : xs = [] := by simpa using hx
      subst hx
      refine (Any.strings_Join_none L X _ cap sep w).mono ?_
      rintro e w' ⟨rfl, rfl⟩
      exact ⟨rfl, Below.refl _ _⟩
    · rw [hμ] at g1; cases g1
      have hblk : sp.k < w.heap.size := (Array.getElem?_eq_some_iff.1 g2).1
      rw [Nat.zero_mul]
      refine (Any.strings_Join L X sp.k 0 cap xs sep w (fun j x hx => ?_) hblk hN hnc hlen').mono ?_
      · have hj : j < xs.length := (List.getElem?_eq_some_iff.1 hx).1
        have hxj : xs[j] = x := (List.getElem?_eq_some_iff.1 hx).2
        have hv := (a3 j (by simpa using hj)).1
        rw [List.getElem_map, hxj] at hv
        have hvj := sc_inv hv
        have := a2 j 0 (.string x) (by simpa using hj) (by rw [hvj]; rfl)
        simp only [World.cell?, g2]
        simpa using this
      · rintro e w' ⟨rfl, hb⟩
        exact ⟨rfl, hb⟩
end
end Go.Av

namespace Go.Av
open Go.Shelf Go.RowKit Go.Lib Go.Sort Go.Proofs
set_option linter.unusedVariables false

section
variable {P : Program} {F K : Nat → Prop} {μ μ' : Nat → Option Spot} {w w' : World} {σ : Heap}

/-- A contract of the kit's that lays a new block. -/
theorem inv_newB (h : Inv F K μ σ w) (h0 : μ 0 = none) (hb : Below w.heap.size w w') {c : Nat} (hc : μ c = none) {sp : Spot} (hk : w.heap.size ≤ sp.k) {blk : Blk} (hn : BlkRel F (upd μ c (some sp)) w' c blk) :
    Inv F K (upd μ c (some sp)) (upd σ c (some blk)) w' ∧ Ext F K μ w F (upd μ c (some sp)) w' := by
  have he : Ext F K μ w F (upd μ c (some sp)) w' :=
    ⟨hb.os, hb.tape, hb.output, fun h => (by rw [h0] at h; cases h), hb.size, fun _ h => h, fun b s hs => by rw [upd_ne _ _ (fun e => by rw [e, hc] at hs; cases hs)]; exact hs, fun k hk => hb.block k (hk.elim (h.bdF k) (h.bdK k))⟩
  have lv : ∀ d s, (upd σ c (some blk)) d ≠ none → (upd μ c (some sp)) d = some s → (d = c ∧ s = sp) ∨ (d ≠ c ∧ σ d ≠ none ∧ μ d = some s) := by
    intro d s h1 h2
    by_cases hd : d = c
    · subst hd; simp at h2; exact .inl ⟨rfl, h2.symm⟩
    · rw [upd_ne _ _ hd] at h1 h2; exact .inr ⟨hd, h1, h2⟩
  refine ⟨⟨fun d ob hd => ?_, fun d d' s s' h1 h2 h3 h4 h5 => ?_, fun d s h1 h2 => ?_, h.sep, fun k hk' => Nat.lt_of_lt_of_le (h.bdF k hk') hb.size, fun k hk' => Nat.lt_of_lt_of_le (h.bdK k hk') hb.size, ?_⟩, he⟩
  · by_cases hdc : d = c
    · subst hdc; simp at hd; subst hd; exact hn
    · rw [upd_ne _ _ hdc] at hd
      refine (h.blk d ob hd).ext he (fun s hs => hb.block _ (h.lt (by rw [hd]; simp) hs)) (fun hm => ?_)
      rw [upd_ne _ _ hdc]; exact hm
  · rcases lv d s h1 h3 with ⟨rfl, rfl⟩ | ⟨hd, g1, g2⟩ <;> rcases lv d' s' h2 h4 with ⟨rfl, rfl⟩ | ⟨hd', g1', g2'⟩
    · rfl
    · have := h.lt g1' g2'; omega
    · have := h.lt g1 g2; omega
    · exact h.inj d d' s s' g1 g1' g2 g2' h5
  · rcases lv d s h1 h2 with ⟨rfl, rfl⟩ | ⟨hd, g1, g2⟩
    · exact ⟨fun hf => by have := h.bdF _ hf; omega, fun hk' => by have := h.bdK _ hk'; omega⟩
    · exact h.nof d s g1 g2
  · obtain ⟨N, hN⟩ := h.fin
    refine ⟨max N (c + 1), fun d hd => ?_⟩
    rw [upd_ne _ _ (by omega), upd_ne _ _ (by omega)]
    exact hN d (by omega)
theorem RVs_one {a : AV} {vs : List Value} (h : RVs F μ w [a] vs) : ∃ v, vs = [v] ∧ RV F μ w a v := by
  have := h.1
  match vs, this, h with
  | [v], _, h => exact ⟨v, rfl, h.2 0 (by simp) (by simp)⟩

/-- A contract as a walk of the kit's asks for it: in whatever world in which the table stands. -/
theorem calls_of_at {P : Program} {f : FuncId} {a : AV} {x : Value} (ef : ∀ xs w, (callFunc f xs).run P w = .ok (.enter f xs) w) {g : Nat} {cs : List Value} {e : TypeId} {fr : Nat × Nat} (hg : w.heap[g]? = some (.cells cs.toArray e fr))
    (h : ∀ σ : Heap, σ 0 = some (.glob g cs) → PureAt P f [a] σ (.sc x)) {v : Value} (hv : RV (fun _ => False) (fun _ => none) w a v) :
    Calls P f #[v] w fun e w' => e = .returned x ∧ Below w.heap.size w w' := by
  have hglt : g < w.heap.size := (Array.getElem?_eq_some_iff.1 hg).1
  have hinv : Inv (fun k => k < w.heap.size) (fun _ => False) (fun _ => none) (upd (fun _ => none) 0 (some (.glob g cs))) w := by
    refine ⟨fun b o hb => ?_, fun b b' sp sp' _ _ h1 => (by cases h1), fun b sp _ h1 => (by cases h1), fun k hk => hk.elim, fun k hk => hk, fun k hk => hk.elim, 1, fun b hb => ⟨rfl, by rw [upd_ne _ _ (by omega)]⟩⟩
    by_cases hb0 : b = 0
    · subst hb0
      rw [upd_same] at hb
      cases hb
      exact ⟨rfl, hglt, e, fr, hg⟩
    · rw [upd_ne _ _ hb0] at hb; cases hb
  have := h _ (upd_same _ _ _) _ _ _ w [v] ⟨rfl, fun i hi hj => by
    have : i = 0 := by simp at hi; omega
    subst this
    exact hv.mono (fun _ h => h.elim) (fun _ _ h => by cases h) (fun _ h => h.elim)⟩ hinv
  unfold CallSem at this
  rw [ef] at this
  refine this.mono ?_
  rintro en w' ⟨v', rfl, r, σ', F', μ', ⟨rfl, rfl⟩, hrv, hinv', hext⟩
  obtain rfl := sc_inv hrv
  exact ⟨rfl, hext.os, hext.tape, hext.output, hext.size, fun k hk => hext.keep k (.inl hk)⟩

end
end Go.Av

namespace Go.Av
open Go.Shelf Go.RowKit Go.Lib Go.Sort Go.Proofs Go.Proofs.Tryz
set_option linter.unusedVariables false
set_option maxRecDepth 100000

section
variable {F K : Nat → Prop} {μ : Nat → Option Spot} {w w' : World} {σ : Heap}

theorem slice_inv {sz : Nat} {es : List AV} {v : Value} (h : RV F μ w (.lst sz es) v) : ∃ p n cap, v = .slice p n cap := by
  cases h with
  | lstE _ a cap => exact ⟨_, _, _, rfl⟩
  | lst _ _ k o cap vs => exact ⟨_, _, _, rfl⟩

theorem txn_inv {t : Txn} {v : Value} (h : RV F μ w (encTxn t) v) : ∃ x : TX, v = x.val := by
  unfold encTxn at h
  cases h with
  | agg _ vs hl h1 h2 =>
    match vs, hl, h2 with
    | [v0, v1, v2, v3, v4, v5], _, h2 =>
      have e0 := sc_inv (h2 0 (by simp) (by simp))
      have e1 := sc_inv (h2 1 (by simp) (by simp))
      have e2 := sc_inv (h2 2 (by simp) (by simp))
      have e3 := sc_inv (h2 3 (by simp) (by simp))
      have e4 := sc_inv (h2 4 (by simp) (by simp))
      obtain ⟨p, n, cap, e5⟩ := slice_inv (h2 5 (by simp) (by simp))
      simp only [List.getElem_cons_succ, List.getElem_cons_zero] at e0 e1 e2 e3 e4 e5
      subst e0 e1 e2 e3 e4 e5
      exact ⟨⟨_, _, _, _, _, p, n, cap⟩, rfl⟩

theorem txFlat_get (xs : List TX) : ∀ i j c, i < xs.length → (xs[i]?.elim (none : Option Value) fun x => x.cells[j]?) = some c → (txFlat xs)[i * 6 + j]? = some c := by
  induction xs with
  | nil => intro i j c hi; simp at hi
  | cons x xs ih =>
    intro i j c hi h
    have hx : x.cells.length = 6 := rfl
    cases i with
    | zero =>
      simp only [List.getElem?_cons_zero, Option.elim_some] at h
      have hj : j < 6 := by rw [← hx]; exact (List.getElem?_eq_some_iff.1 h).1
      simp only [txFlat, List.flatMap_cons, Nat.zero_mul, Nat.zero_add]
      rw [List.getElem?_append_left (by omega)]; exact h
    | succ i =>
      simp only [List.getElem?_cons_succ] at h
      simp only [txFlat, List.flatMap_cons]
      rw [List.getElem?_append_right (by rw [hx]; omega), hx, show (i + 1) * 6 + j - 6 = i * 6 + j by omega]
      exact ih i j c (by simpa using hi) h

theorem collect_at {g : Nat} {cs : List Value} (h0 : σ 0 = some (.glob g cs)) {b : Nat} {l : List Txn} (hb : σ b = some (.row 1 [encL 6 encTxn l])) (hlen : l.length ≤ 1000000000) :
    CallsA prog 173 [.clo 175 [.ptr b 0 0]] σ fun r s => ∃ c, σ c = none ∧ r = .row 6 c 0 l.length ∧ s = upd σ c (some (.row 6 (l.map encTxn))) := by
  intro F K μ w vs hvs hinv
  obtain ⟨v, rfl, hv⟩ := RVs_one hvs
  obtain ⟨hm0, -, -⟩ := hinv.blk 0 _ h0
  cases hv with
  | clo _ _ ps hpl hps =>
    obtain ⟨q, rfl⟩ : ∃ q, ps = [q] := by
      match ps, hpl with
      | [q], _ => exact ⟨q, rfl⟩
    have hq : RV F μ w (.ptr b 0 0) q := hps 0 (by simp) (by simp)
    cases hq with
    | ptr _ _ _ sp hμ =>
      rcases hinv.blk b _ hb with ⟨hx, _⟩ | ⟨sp', arr, et, g1, g2, g3, g4, g5, g6, vsf, a1, a2, a3⟩
      · simp at hx
      rw [hμ] at g1; cases g1
      have hsv := (a3 0 (by simp)).1
      simp only [List.getElem_cons_zero] at hsv
      generalize hes : l.map encTxn = es at hsv
      unfold encL at hsv
      rw [hes] at hsv
      have hle : es.length = l.length := by rw [← hes]; simp
      have hcellb : w.cell? ⟨sp.k, 0, none⟩ = some (vsf 0) := by
        have hone := hsv.oneCell rfl
        have := a2 0 0 (vsf 0) (by simp) (by
          revert hone
          obtain ⟨p, n, cap, e⟩ := slice_inv hsv
          rw [e]; intro; rfl)
        simp only [World.cell?, g2]
        simpa using this
      have hkb : sp.k < w.heap.size := (Array.getElem?_eq_some_iff.1 g2).1
      obtain ⟨xs, hxl, hxs, hTx⟩ : ∃ xs : List TX, xs.length = l.length ∧ (∀ i (hi : i < xs.length) (hi' : i < l.length), RV F μ w (encTxn l[i]) xs[i].val) ∧ TxSlice w.heap.size w (vsf 0) xs := by
        generalize vsf 0 = sv at hsv
        cases hsv with
        | lstE _ p cap => exact ⟨[], by simpa using hle, fun i hi => by simp at hi, .inl ⟨p, cap, rfl, rfl⟩⟩
        | lst _ _ k o cap vs hF hc hfl hs hcell hall =>
          have helem : ∀ i, i < es.length → ∃ x : TX, vs i = x.val := by
            intro i hi
            have h1 := hall i hi
            have h2 : es[i] = encTxn (l[i]'(by omega)) := by subst hes; rw [List.getElem_map]
            rw [h2] at h1
            exact txn_inv h1
          obtain ⟨xs, hxl, hx⟩ := exists_list es.length helem
          refine ⟨xs, by omega, fun i hi hi' => ?_, .inr ⟨k, o, cap, by rw [hxl], hinv.bdF k hF, fun i x hx' j c hj => ?_⟩⟩
          · rw [← hx i hi]
            have h1 := hall i (by omega)
            have h2 : es[i]'(by omega) = encTxn l[i] := by subst hes; rw [List.getElem_map]
            rw [h2] at h1
            exact h1
          · have hi : i < xs.length := (List.getElem?_eq_some_iff.1 hx').1
            have hxi : xs[i] = x := (List.getElem?_eq_some_iff.1 hx').2
            rw [Nat.add_assoc]
            refine hcell i j c (by omega) ?_
            rw [hx i hi, hxi]
            simpa [TX.cells, TX.val, Value.cells] using hj
      subst hes
      unfold CallSem
      have e173 : ∀ xs w, (callFunc 173 xs).run prog w = .ok (.enter 173 xs) w := enters_of func173 (by kernel_rfl) rfl
      rw [e173]
      have hmain := collect_calls sp.k (vsf 0) xs (by omega) w hkb hcellb hTx
      rw [Nat.zero_mul]
      refine hmain.mono ?_
      rintro e w' ⟨v, rfl, hown, hbl⟩
      obtain ⟨c, hc, hσc⟩ := hinv.fresh
      have hel : ∀ i (hi : i < (l.map encTxn).length), RV F μ w' (l.map encTxn)[i] (xs[i]'(by rw [hxl]; simpa using hi)).val := by
        intro i hi
        rw [List.getElem_map]
        refine (hxs i (by rw [hxl]; simpa using hi) (by simpa using hi)).mono (fun _ h => h) (fun _ _ h => h) fun k hk => hbl.block k (hinv.bdF k hk)
      rcases hown.2 with ⟨rfl, hn0⟩ | ⟨g, cap, cur, rfl, hg1, hg2, hg3, hg4, hg5, hg6⟩
      · have hl0 : l = [] := List.eq_nil_of_length_eq_zero (by omega)
        subst hl0
        obtain ⟨hi', he'⟩ := inv_below hinv hm0 hbl
        exact ⟨_, rfl, _, _, F, μ, ⟨c, hσc, rfl, rfl⟩, .rowE _ _ _ _, hi'.phantom hc 6, he'⟩
      · rw [hxl] at hg3 hg6 ⊢
        have hlies : LiesIn F (upd μ c (some ⟨g, 6, cap⟩)) w' 6 (l.map encTxn) cur := by
          refine ⟨fun i => (xs[i]?.getD ⟨0, 0, 0, 0, false, none, 0, 0⟩).val, fun i hi => rfl, fun i j u hi hj => ?_, fun i hi => ⟨?_, ?_⟩⟩
          · have hi2 : i < xs.length := by rw [hxl]; simpa using hi
            simp only [List.getElem?_eq_getElem hi2, Option.getD_some] at hj
            have hj6 : j < 6 := by
              have := (Array.getElem?_eq_some_iff.1 hj).1
              simpa [TX.val, Value.cells] using this
            have h1 := txFlat_get xs i j u hi2 (by rw [List.getElem?_eq_getElem hi2]; simpa [TX.cells, TX.val, Value.cells] using hj)
            rw [← hg6] at h1
            rw [List.getElem?_take] at h1
            split at h1
            · simpa using h1
            · cases h1
          · have hi2 : i < xs.length := by rw [hxl]; simpa using hi
            simp only [List.getElem?_eq_getElem hi2, Option.getD_some]
            exact (hel i hi).mono (fun _ h => h) (fun b s hs => by rw [upd_ne _ _ (fun e => by rw [e, hc] at hs; cases hs)]; exact hs) fun _ _ => rfl
          · rw [List.getElem_map]; rfl
        obtain ⟨hi', he'⟩ := inv_newB (c := c) (sp := ⟨g, 6, cap⟩) (blk := .row 6 (l.map encTxn)) hinv hm0 hbl hc hg1 (.inr ⟨_, cur, 61, upd_same _ _ _, hg2, hg5, rfl, by simpa using hg3, hg4, hlies⟩)
        refine ⟨_, rfl, _, _, F, _, ⟨c, hσc, rfl, rfl⟩, ?_, hi', he'⟩
        have := RV.row (F := F) (μ := upd μ c (some ⟨g, 6, cap⟩)) (w := w') 6 c 0 l.length cap ⟨g, 6, cap⟩ (upd_same _ _ _) rfl hg3 (by simp)
        simpa using this
end
end Go.Av

namespace Go.Av
open Go.Shelf Go.RowKit Go.Lib Go.Sort Go.Proofs
set_option linter.unusedVariables false

section
variable {P : Program} {ρ : Ren} {F K : Nat → Prop} {μ μ' : Nat → Option Spot} {w w' : World} {σ : Heap}

/-- An element of the row: its data, its cells. -/
abbrev Elem (T : Type) (f : T → AV) (k : Nat) (F : Nat → Prop) (μ : Nat → Option Spot) (w : World) : Type :=
  { p : T × List Value // p.2.length = k ∧ (∀ v ∈ p.2, v.oneCell' = true) ∧ RV F μ w (f p.1) (.agg p.2.toArray) }

theorem flat_get {α : Type} [Inhabited α] {enc : α → List Value} {k i j : Nat} {d : Array α} (hi : i < d.size) (hj : j < k) : (flatK enc k d)[i * k + j]! = (enc d[i])[j]! := by
  have hlt : i * k + j < d.size * k := by
    have := Nat.mul_le_mul_right k (show i + 1 ≤ d.size from hi)
    rw [Nat.add_mul, Nat.one_mul] at this; omega
  rw [get_flatK _ _ _ _ hlt]
  have h1 : (i * k + j) / k = i := by
    rw [Nat.mul_comm, Nat.mul_add_div (by omega), Nat.div_eq_of_lt hj, Nat.add_zero]
  have h2 : (i * k + j) % k = j := by
    rw [Nat.mul_comm, Nat.mul_add_mod, Nat.mod_eq_of_lt hj]
  rw [h1, h2, getElem!_pos d i hi]

theorem sort_calls (L : SlLaysF0.n6 P ρ) (k : Nat) (hk0 : 0 < k) (aE : ∀ w, (isAgg (ρ.t 24)).run P w = .ok true w) (zE : ∀ w, (Go.sizeOf (ρ.t 24)).run P w = .ok k w)
    {T : Type} (f : T → AV) (hf : ∀ x, ∃ cs : List AV, f x = .agg cs ∧ cs.length = k) (hnr : ∀ x, Nr (f x)) (cf : T → T → Int) (hO : SWO (ltOf cf)) (g : FuncId) (eg : ∀ xs w, (callFunc g xs).run P w = .ok (.enter g xs) w)
    (hcmp : ∀ x y, Pure P g [f x, f y] (.int (cf x y))) (l : List T) (b : Nat) (hσ : σ b = some (.row k (l.map f))) (hsz : l.length < 4611686018427387904) :
    CallsA P (ρ.f 6) [.row k b 0 l.length, .clo g []] σ (fun r s => r = .tup [] ∧ ∃ l' : List T, l'.Perm l ∧ l'.Pairwise (fun x y => ¬ cf y x < 0) ∧ s = upd σ b (some (.row k (l'.map f)))) := by
  intro F K μ w vs hvs hinv
  obtain ⟨v0, v1, rfl⟩ : ∃ v0 v1, vs = [v0, v1] := by
    have := hvs.1
    match vs, this with
    | [a, b], _ => exact ⟨a, b, rfl⟩
  have h0 : RV F μ w (.row k b 0 l.length) v0 := hvs.2 0 (by simp) (by simp)
  have h1 : RV F μ w (.clo g []) v1 := hvs.2 1 (by simp) (by simp)
  have e6 : ∀ args w, (callFunc (ρ.f 6) args).run P w = .ok (.enter (ρ.f 6) args) w := L.f6.enters rfl
  obtain rfl : v1 = .func (.func g) #[] #[] := by
    cases h1 with
    | clo _ _ vs' hl _ =>
      obtain rfl := List.eq_nil_of_length_eq_zero hl
      rfl
  have empty : l = [] → ∀ (p : Option Addr) (cap : Nat), v0 = .slice p 0 cap → CallSem P (ρ.f 6) [v0, .func (.func g) #[] #[]].toArray w (Ends F K μ w (fun r s => r = .tup [] ∧ ∃ l' : List T, l'.Perm l ∧ l'.Pairwise (fun x y => ¬ cf y x < 0) ∧ s = upd σ b (some (.row k (l'.map f))))) := by
    rintro rfl p cap rfl
    unfold CallSem
    rw [e6]
    refine (AnyF.slices_SortFunc_none L p cap _ w).mono ?_
    rintro e w' ⟨rfl, rfl⟩
    refine ⟨_, rfl, .tup [], σ, F, μ, ⟨rfl, [], .nil, .nil, ?_⟩, .tup [] [] rfl (fun i hi => by simp at hi), hinv, Ext.refl F K μ w'⟩
    funext j
    by_cases hj : j = b
    · subst hj; rw [upd_same, hσ]
    · rw [upd_ne _ _ hj]
  obtain ⟨n, hn⟩ : ∃ n, n = l.length := ⟨_, rfl⟩
  rw [← hn] at h0
  cases h0 with
  | rowE _ _ _ a => exact empty (List.eq_nil_of_length_eq_zero hn.symm) a 0 rfl
  | row _ _ _ _ cap sp hμ hsp hnc hcp =>
    subst hn
    by_cases hl : l = []
    · refine empty hl (some ⟨sp.k, 0 * sp.sz, none⟩) cap ?_
      subst hl; rfl
    rcases hinv.blk b _ hσ with ⟨_, hμ0⟩ | ⟨sp', arr, et, g1, g2, g3, g4, g5, g6, vsf, a1, a2, a3⟩
    · rw [hμ] at hμ0; cases hμ0
    rw [hμ] at g1
    obtain rfl := Option.some.inj g1
    have hnof := hinv.nof b sp (by rw [hσ]; simp) hμ
    have helem : ∀ i, i < l.length → ∃ p : Elem T f k F μ w, (∀ hi : i < l.length, p.1.1 = l[i]) ∧ ∀ j, j < k → arr[i * k + j]? = p.1.2[j]? := by
      intro i hi
      have hx := a3 i (by simpa using hi)
      rw [List.getElem_map] at hx
      have hsz := a1 i (by simpa using hi)
      have hcl := a2 i
      obtain ⟨cs, hcs, hcl'⟩ := hf l[i]
      generalize vsf i = v at hx hsz hcl
      have hx1 := hx.1
      rw [hcs] at hx1
      cases hx1 with
      | agg _ us hu h1 h2 =>
        refine ⟨⟨(l[i], us), by simp only; omega, fun v hv => ?_, by simp only; rw [hcs]; exact .agg cs us hu h1 h2⟩, fun _ => rfl, fun j hj => ?_⟩
        · obtain ⟨q, hq, rfl⟩ := List.mem_iff_getElem.1 hv
          exact (h2 q (by simp only at hq; omega) hq).oneCell (h1 q (by simp only at hq; omega))
        · have hju : j < us.length := by omega
          simp only
          rw [List.getElem?_eq_getElem hju]
          exact hcl j us[j] (by simpa using hi) (by simp [Value.cells, hju])
    obtain ⟨dl, hdl, hd⟩ := exists_list l.length helem
    have hpos : 0 < dl.length := by rw [hdl]; exact List.length_pos_iff.2 hl
    haveI : Inhabited (Elem T f k F μ w) := ⟨dl[0]⟩
    have hdm : dl.map (·.1.1) = l := by
      apply List.ext_getElem
      · simp [hdl]
      · intro i h1 h2
        rw [List.getElem_map]
        exact (hd i (by simpa using h1)).1 h2
    have hO' : SWO (ltOf fun x y : Elem T f k F μ w => cf x.1.1 y.1.1) := ⟨fun x => hO.irrefl x.1.1, fun x y z => hO.trans x.1.1 y.1.1 z.1.1, fun x y z => hO.ntrans x.1.1 y.1.1 z.1.1⟩
    have hkeep : ∀ (m : Nat) (os : Array Obj) (dk : Array (Elem T f k F μ w)) (x : Elem T f k F μ w), RV F μ (sortWorldK (fun p : Elem T f k F μ w => p.1.2) k w sp.k 0 m dk os) (f x.1.1) (.agg x.1.2.toArray) := fun m os dk x =>
      x.2.2.2.mono (fun _ h => h) (fun _ _ h => h) fun j hj => (sortWorld_at g2).2.1 j (hinv.bdF j hj) fun e => hnof.1 (e ▸ hj)
    have hcmpL : CmpLays P g #[] (fun p : Elem T f k F μ w => p.1.2) k (fun x y => cf x.1.1 y.1.1) sp.k 0 dl.toArray.size w := by
      intro m os dk _ x y
      have := pure_grow (hcmp x.1.1 y.1.1) (vs := [.agg x.1.2.toArray, .agg y.1.2.toArray]) (F := F) (μ := μ) (w := sortWorldK (fun p : Elem T f k F μ w => p.1.2) k w sp.k 0 m dk os)
        (fun a ha => by simp only [List.mem_cons, List.mem_nil_iff, or_false] at ha; rcases ha with rfl | rfl <;> exact hnr _) eg
        (fun j hj => Nat.lt_of_lt_of_le (hinv.bdF j hj) (sortWorld_at g2).2.2.1)
        ⟨rfl, fun i hi hj => by
          match i, hi, hj with
          | 0, _, _ => exact hkeep m os dk x
          | 1, _, _ => exact hkeep m os dk y⟩
      simpa using this
    have hH : Go.Sort.HoldsK (fun p : Elem T f k F μ w => p.1.2) k w sp.k 0 dl.toArray := by
      intro j hj
      rw [size_flatK] at hj
      have hq : j % k < k := Nat.mod_lt _ hk0
      have hi : j / k < dl.length := Nat.div_lt_of_lt_mul (by rw [Nat.mul_comm]; simpa using hj)
      have hje : j = j / k * k + j % k := by rw [Nat.mul_comm]; exact (Nat.div_add_mod j k).symm
      have harr := (hd (j / k) hi).2 (j % k) hq
      rw [← hje] at harr
      have hfl := flat_get (enc := fun p : Elem T f k F μ w => p.1.2) (k := k) (i := j / k) (j := j % k) (d := dl.toArray) (by simpa using hi) hq
      rw [← hje] at hfl
      have hlen : j % k < (dl[j / k]).1.2.length := by rw [dl[j / k].2.1]; exact hq
      refine ⟨?_, ?_⟩
      · simp only [World.cell?, g2, Nat.zero_add, id]
        rw [hfl]
        simp only [List.getElem_toArray] at *
        rw [getElem!_pos (dl[j / k]).1.2 (j % k) hlen]
        simp [harr, List.getElem?_eq_getElem hlen]
      · simp [World.frozen?, g2]
    have hblk : sp.k < w.heap.size := (Array.getElem?_eq_some_iff.1 g2).1
    unfold CallSem
    rw [e6]
    have hmain := AnyQ.slices_SortFunc L k aE zE (fun p : Elem T f k F μ w => p.1.2) (fun x => x.2.1) (fun x => x.2.2.1) (fun x y => cf x.1.1 y.1.1) hO' g #[] sp.k 0 cap dl.toArray w eg hcmpL hH hblk (by simpa [hdl] using hsz)
    have hargs : (#[.slice (some ⟨sp.k, 0, none⟩) dl.toArray.size cap, .func (.func g) #[] #[]] : Array Value) = [Value.slice (some ⟨sp.k, 0 * sp.sz, none⟩) l.length cap, .func (.func g) #[] #[]].toArray := by
      rw [Nat.zero_mul]; simp [hdl]
    rw [hargs] at hmain
    refine hmain.mono ?_
    rintro e w' ⟨rfl, d', m, os, hp, hs, rfl⟩
    have hdn : d'.size = l.length := by rw [hp.1]; simpa using hdl
    obtain ⟨s1, s2, s3, s4, s5, s6, s7⟩ := sortWorld_at (enc := fun p : Elem T f k F μ w => p.1.2) (k := k) (n := m) (d' := d') (os := os) g2
    have hext : Ext F K μ w F μ (sortWorldK (fun p : Elem T f k F μ w => p.1.2) k w sp.k 0 m d' os) :=
      Ext.later s4 s5 s6 s7 s3 fun j hj => s2 j (hj.elim (hinv.bdF j) (hinv.bdK j)) fun ej => by subst ej; exact hj.elim hnof.1 hnof.2
    have hperm : (d'.toList.map (·.1.1)).Perm l := by
      have := hp.2.2
      rw [Array.extract_eq_self_of_le (by simp only [List.size_toArray, hdl]; omega), Array.extract_eq_self_of_le (Nat.le_refl _)] at this
      have := this.map (·.1.1)
      simp only [hdm] at this
      exact this
    refine ⟨_, rfl, .tup [], upd σ b (some (.row k ((d'.toList.map (·.1.1)).map f))), F, μ, ⟨rfl, _, hperm, ?_, rfl⟩, .tup [] [] rfl (fun i hi => by simp at hi), ?_, hext⟩
    · rw [List.pairwise_map, List.pairwise_iff_getElem]
      intro i j hi hj hij
      have := hs i j (Nat.zero_le _) hij (by simp only [Array.length_toList] at hj; simp only [List.size_toArray, hdl]; omega)
      rw [getElem!_pos d' j (by simpa using hj), getElem!_pos d' i (by simpa using hi)] at this
      simpa [ltOf] using this
    · refine hinv.turn (by rw [hσ]; simp) hμ hext (fun j hj hne => s2 j hj hne) (.inr ⟨sp, _, et, hμ, s1, ?_, g4, ?_, g6, ?_⟩)
      · simp only [putCells, Array.size_mapIdx]; exact g3
      · simp only [List.length_map, Array.length_toList] at g5 ⊢
        have hx : d'.toList.length = d'.size := rfl
        omega
      · refine ⟨fun i => if h : i < d'.size then .agg (d'[i].1.2).toArray else undef, fun i hi => ?_, fun i j c hi hj => ?_, fun i hi => ?_⟩
        · have hi' : i < d'.size := by simpa using hi
          simp only [dif_pos hi', Value.cells]
          simpa using d'[i].2.1
        · have hi' : i < d'.size := by simpa using hi
          simp only [dif_pos hi', Value.cells] at hj
          have hjk : j < k := by rw [← d'[i].2.1]; simpa using (Array.getElem?_eq_some_iff.1 hj).1
          have hlt : i * k + j < d'.size * k := by
            have := Nat.mul_le_mul_right k (show i + 1 ≤ d'.size from hi')
            rw [Nat.add_mul, Nat.one_mul] at this; omega
          have hlt2 : i * k + j < arr.size := by
            rw [g3, g4]
            refine Nat.lt_of_lt_of_le hlt (Nat.mul_le_mul_right _ ?_)
            simp only [List.length_map] at g5; omega
          simp only [putCells]
          rw [Array.getElem?_mapIdx, Array.getElem?_eq_getElem hlt2]
          simp only [Option.map_some, Nat.zero_le, true_and, Nat.zero_add, size_flatK, Nat.sub_zero, id]
          rw [if_pos hlt, flat_get hi' hjk]
          have hjl : j < (d'[i].1.2).length := by rw [d'[i].2.1]; exact hjk
          rw [getElem!_pos (d'[i].1.2) j hjl]
          simpa [List.getElem?_eq_getElem hjl] using hj
        · have hi' : i < d'.size := by simpa using hi
          simp only [dif_pos hi', List.getElem_map, Array.getElem_toList]
          refine ⟨hkeep m os d' _, ?_⟩
          obtain ⟨cs, hcs, _⟩ := hf d'[i].1.1
          rw [hcs]; rfl
end
end Go.Av

namespace Go.Av
open Go.Proofs.Tryz
set_option maxRecDepth 100000
set_option linter.unusedSimpArgs false
set_option linter.unusedVariables false

/- slices.Values[[]api.Txn,api.Txn] -/
def c76 : ICode :=
  .seq (.region 2 [⟨(some 1), .hbox (.t 0), none⟩,
    ⟨(some 2), .mov (.c (.sc .nilFunc)), none⟩]) <|
  .seq (.region 2 [⟨(some 3), .mkf 175 [(.t 1)], none⟩,
    ⟨(some 2), .mov (.t 3), none⟩]) <|
  .ret
def ir76 : IFn := ⟨4, [], 1, [.tmp 2], c76⟩
theorem ok76 : compFn prog [] [] f76 = some ir76 := by kernel_rfl
theorem wp76 {a0 : AV} {r : AV} (H : ∀ σ, WpI prog c76 (retQ [.tmp 2] fun v s => v = r ∧ s = σ) (argE [a0]) 0 σ) : Pure prog 76 [a0] r := @pure_of_wp prog hm 76 f76 [] [] ir76 [a0] r func76 ok76 (Nat.le_of_ble_eq_true rfl) H
theorem wa76 {a0 : AV} {σ : Heap} {R : AV → Heap → Prop} (H : WpI prog c76 (retQ [.tmp 2] R) (argE [a0]) 0 σ) : CallsA prog 76 [a0] σ R := @callsA_of_wp prog [] hm 76 f76 [] ir76 [a0] σ R func76 ok76 (Nat.le_of_ble_eq_true rfl) H
/- slices.SortedFunc[api.Txn] -/
def c75 : ICode :=
  .seq (.region 1 [⟨(some 4), .mov (.c .nils), none⟩]) <|
  .seq (.region 3 [⟨(some 6), .mov (.t 0), none⟩,
    ⟨(some 7), .call (.c (.clo 173 [])) [(.t 6)], none⟩,
    ⟨(some 5), .mov (.t 7), none⟩]) <|
  .seq (.region 3 [⟨(some 8), .mov (.t 5), none⟩,
    ⟨(some 9), .mov (.t 1), none⟩,
    ⟨(some 10), .call (.c (.clo 174 [])) [(.t 8), (.t 9)], none⟩]) <|
  .seq (.region 2 [⟨(some 11), .mov (.t 5), none⟩,
    ⟨(some 4), .mov (.t 11), none⟩]) <|
  .ret
def ir75 : IFn := ⟨12, [], 2, [.tmp 4], c75⟩
theorem ok75 : compFn prog [] [] f75 = some ir75 := by kernel_rfl
theorem wp75 {a0 a1 : AV} {r : AV} (H : ∀ σ, WpI prog c75 (retQ [.tmp 4] fun v s => v = r ∧ s = σ) (argE [a0, a1]) 0 σ) : Pure prog 75 [a0, a1] r := @pure_of_wp prog hm 75 f75 [] [] ir75 [a0, a1] r func75 ok75 (Nat.le_of_ble_eq_true rfl) H
theorem wa75 {a0 a1 : AV} {σ : Heap} {R : AV → Heap → Prop} (H : WpI prog c75 (retQ [.tmp 4] R) (argE [a0, a1]) 0 σ) : CallsA prog 75 [a0, a1] σ R := @callsA_of_wp prog [] hm 75 f75 [] ir75 [a0, a1] σ R func75 ok75 (Nat.le_of_ble_eq_true rfl) H
/- history.All -/
def c16l0 : ICode :=
  .seq (.region 1 [⟨(some 14), .bin .lss (.t 13) (.t 12), none⟩]) <|
  .seq (.cond (.t 14) (.skip) (.exit 0)) <|
  .seq (.block 1 (.seq (.region 4 [⟨(some 15), .iaddrS 6 (.t 11) (.t 13), none⟩,
    ⟨(some 16), .load none 6 true (.t 15), none⟩,
    ⟨(some 6), .nbox 2 (.agg [(.int 0), (.int 0), (.int 0), (.int 0), (.bool false), .nils]), none⟩,
    ⟨none, .store (some 6) 6 (.b 6) (.t 16), none⟩]) <|
  .region 7 [⟨(some 17), .mov (.t 4), none⟩,
    ⟨(some 18), .load (some 1) 44 true (.b 1), none⟩,
    ⟨(some 19), .load (some 6) 6 true (.b 6), none⟩,
    ⟨(some 20), .call (.c (.clo 78 [])) [(.t 18), (.t 19)], none⟩,
    ⟨(some 21), .bslice 8 [(.t 20)], none⟩,
    ⟨(some 22), .app 8 56 (.t 17) (.t 21), none⟩,
    ⟨(some 4), .mov (.t 22), none⟩])) <|
  .region 2 [⟨(some 23), .bin .add (.t 13) (.c (.int 1)), none⟩,
    ⟨(some 13), .mov (.t 23), none⟩]
def c16 : ICode :=
  .seq (.region 2 [⟨(some 1), .bbox 0 (.t 0), none⟩,
    ⟨(some 2), .mov (.c .nils), none⟩]) <|
  .seq (.region 5 [⟨(some 7), .faddr (some 1) 0 (.b 1), none⟩,
    ⟨(some 8), .load (some 1) 1 false (.t 7), none⟩,
    ⟨(some 9), .call (.c (.clo 76 [])) [(.t 8)], none⟩,
    ⟨(some 10), .call (.c (.clo 75 [])) [(.t 9), (.c (.clo 77 []))], none⟩,
    ⟨(some 3), .mov (.t 10), none⟩]) <|
  .seq (.region 1 [⟨(some 4), .mov (.c .nils), none⟩]) <|
  .seq (.seq (.region 3 [⟨(some 11), .mov (.t 3), none⟩,
    ⟨(some 12), .len (.t 11), none⟩,
    ⟨(some 13), .mov (.c (.int 0)), none⟩]) <|
  .block 0 (.loop c16l0)) <|
  .seq (.region 2 [⟨(some 24), .mov (.t 4), none⟩,
    ⟨(some 2), .mov (.t 24), none⟩]) <|
  .ret
def ir16 : IFn := ⟨25, [1, 6], 1, [.tmp 2], c16⟩
theorem ok16 : compFn prog [1, 6] [] f16 = some ir16 := by kernel_rfl
theorem wp16 {a0 : AV} {r : AV} (H : ∀ σ, WpI prog c16 (retQ [.tmp 2] fun v s => v = r ∧ s = σ) (argE [a0]) 0 σ) : Pure prog 16 [a0] r := @pure_of_wp prog hm 16 f16 [1, 6] [] ir16 [a0] r func16 ok16 (Nat.le_of_ble_eq_true rfl) H
theorem wa16 {a0 : AV} {σ : Heap} {R : AV → Heap → Prop} (H : WpI prog c16 (retQ [.tmp 2] R) (argE [a0]) 0 σ) : CallsA prog 16 [a0] σ R := @callsA_of_wp prog [1, 6] hm 16 f16 [] ir16 [a0] σ R func16 ok16 (Nat.le_of_ble_eq_true rfl) H


open Go.Sort Go.Shelf Go.Proofs Go.Lib in
theorem cmpTxn_lt (a b : Txn) : ltOf cmpTxn a b = true ↔ (a.Time < b.Time ∨ (a.Time = b.Time ∧ dlt a.D b.D)) := by
  unfold ltOf cmpTxn dlt cmpDot
  simp only [decide_eq_true_iff]
  have h := @cmpI_lt
  repeat' split
  all_goals first | rw [h]; omega | omega

open Go.Sort Go.Shelf Go.Proofs Go.Lib in
theorem cmpTxn_nlt (a b : Txn) : ltOf cmpTxn a b = false ↔ ¬ (a.Time < b.Time ∨ (a.Time = b.Time ∧ dlt a.D b.D)) := by
  rw [← cmpTxn_lt, Bool.not_eq_true]

open Go.Sort Go.Shelf Go.Proofs Go.Lib in
theorem swoTxn : SWO (ltOf cmpTxn) where
  irrefl x := by rw [cmpTxn_nlt]; unfold dlt; omega
  trans x y z h1 h2 := by rw [cmpTxn_lt] at *; unfold dlt at *; omega
  ntrans x y z h1 h2 := by rw [cmpTxn_nlt] at *; unfold dlt at *; omega

theorem nr_agg {cs : List AV} (h : ∀ c ∈ cs, Nr c) : Nr (.agg cs) := .agg cs fun i hi => h _ (List.getElem_mem hi)
theorem nr_L {α : Type} {sz : Nat} {f : α → AV} (h : ∀ x, Nr (f x)) (l : List α) : Nr (encL sz f l) := .lst sz _ fun i hi => by rw [List.getElem_map]; exact h _
theorem nr_encTxn (x : Txn) : Nr (encTxn x) := by
  have r1 : ∀ y : Ref, Nr (encRef y) := fun y => nr_agg (by simp [Nr.sc])
  have r2 : ∀ y : Opn, Nr (encOpn y) := fun y => nr_agg (by simp [Nr.sc, nr_L, r1])
  exact nr_agg (by simp [Nr.sc, nr_L, r2])

theorem k_sort {σ : Heap} (l : List Txn) (b : Nat) (hσ : σ b = some (.row 6 (l.map encTxn))) (hsz : l.length < 4611686018427387904) :
    CallsA prog 174 [.row 6 b 0 l.length, .clo 77 []] σ (fun r s => r = .tup [] ∧ ∃ l' : List Txn, l'.Perm l ∧ l'.Pairwise (fun x y => ¬ cmpTxn y x < 0) ∧ s = upd σ b (some (.row 6 (l'.map encTxn)))) :=
  sort_calls laysSort 6 (by decide) isAgg61 sizeOf61 encTxn (fun x => ⟨_, rfl, rfl⟩) nr_encTxn cmpTxn swoTxn 77 (Go.Proofs.enters_of func77 (by kernel_rfl) rfl) k_txnCompare l b hσ hsz

theorem CallsA.fresh {P : Program} {f : FuncId} {args : List AV} {σ : Heap} {R : AV → Heap → Prop} (h : ∀ c, σ c = none → CallsA P f args σ R) : CallsA P f args σ R := fun F K μ w vs hv hi =>
  let ⟨c, _, hc⟩ := hi.fresh
  h c hc F K μ w vs hv hi

theorem sorted_ex (l : List Txn) : ∃ l' : List Txn, l'.Perm l ∧ l'.Pairwise (fun x y => ¬ cmpTxn y x < 0) := by
  have hw := swoTxn
  refine ⟨l.mergeSort (fun a b => !(Go.Proofs.ltOf cmpTxn b a)), List.mergeSort_perm _ _, ?_⟩
  have := List.pairwise_mergeSort (le := fun a b => !(Go.Proofs.ltOf cmpTxn b a)) (fun a b c h1 h2 => by
    simp only [Bool.not_eq_true'] at *
    exact hw.ntrans _ _ _ h2 h1) (fun a b => by
    have h1 := cmpTxn_nlt b a
    have h2 := cmpTxn_nlt a b
    simp only [Bool.or_eq_true, Bool.not_eq_true']
    unfold dlt at *
    rw [h1, h2]; omega) l
  exact this.imp fun {a b} h => by simpa [Go.Proofs.ltOf] using h

theorem k_values {σ : Heap} (l : List Txn) : CallsA prog 76 [encL 6 encTxn l] σ fun r s => ∃ b, σ b = none ∧ r = .clo 175 [.ptr b 0 0] ∧ s = upd σ b (some (.row 1 [encL 6 encTxn l])) := by
  refine wa76 ?_
  unfold c76
  try simp -dsimp (disch := first | omega | assumption) only [↓PB, ↓reduceIte, QB, QC, QD, QE, Nat.reduceAdd, Nat.reduceMul, Nat.reduceEqDiff, Nat.reduceLT, Nat.reduceLeDiff, reduceCtorEq, QF, QG, QH, QI]
  intro b hb
  try simp -dsimp (disch := first | omega | assumption) only [↓PB, ↓reduceIte, QB, QC, QD, QE, Nat.reduceAdd, Nat.reduceMul, Nat.reduceEqDiff, Nat.reduceLT, Nat.reduceLeDiff, reduceCtorEq, QF, QG, QH, QI]
  rw [show (AV.ptr b 0 0).one = true from rfl]
  try simp -dsimp (disch := first | omega | assumption) only [↓PB, ↓reduceIte, QB, QC, QD, QE, Nat.reduceAdd, Nat.reduceMul, Nat.reduceEqDiff, Nat.reduceLT, Nat.reduceLeDiff, reduceCtorEq, QF, QG, QH, QI]
  exact RetG.same ⟨b, hb, rfl, rfl⟩

theorem k_sortedFunc {σ : Heap} {g b : Nat} {cs : List Value} {l : List Txn} (h0 : σ 0 = some (.glob g cs)) (hb : σ b = some (.row 1 [encL 6 encTxn l])) (hlen : l.length ≤ 1000000000) :
    CallsA prog 75 [.clo 175 [.ptr b 0 0], .clo 77 []] σ fun r s => s = σ ∧ ∃ l' : List Txn, l'.Perm l ∧ l'.Pairwise (fun x y => ¬ cmpTxn y x < 0) ∧ r = encL 6 encTxn l' := by
  refine CallsA.fresh fun c0 hc0 => ?_
  refine wa75 ?_
  unfold c75
  try simp -dsimp (disch := first | omega | assumption) only [↓PB, ↓reduceIte, QB, QC, QD, QE, Nat.reduceAdd, Nat.reduceMul, Nat.reduceEqDiff, Nat.reduceLT, Nat.reduceLeDiff, reduceCtorEq, QF, QG, QH, QI]
  refine CallG.calls (collect_at h0 hb hlen) ⟨_, _, c0, hc0, rfl, rfl⟩ ?_
  rintro _ _ ⟨c, hc, rfl, rfl⟩
  try simp -dsimp (disch := first | omega | assumption) only [↓PB, ↓reduceIte, QB, QC, QD, QE, Nat.reduceAdd, Nat.reduceMul, Nat.reduceEqDiff, Nat.reduceLT, Nat.reduceLeDiff, reduceCtorEq, QF, QG, QH, QI]
  refine CallG.calls (k_sort l c (upd_same _ _ _) (by omega)) (by obtain ⟨l', hp, hs⟩ := sorted_ex l; exact ⟨_, _, rfl, l', hp, hs, rfl⟩) ?_
  rintro _ _ ⟨rfl, l', hp, hs, rfl⟩
  try simp -dsimp (disch := first | omega | assumption) only [↓PB, ↓reduceIte, QB, QC, QD, QE, Nat.reduceAdd, Nat.reduceMul, Nat.reduceEqDiff, Nat.reduceLT, Nat.reduceLeDiff, reduceCtorEq, QF, QG, QH, QI]
  rw [upd_upd, show l.length = (l'.map encTxn).length by rw [List.length_map, hp.length_eq]]
  exact ret_row hc ⟨rfl, l', hp, hs, rfl⟩
/-- history.All's list. -/
def HistL (s : State) (l' : List Txn) : Prop := l'.Perm s.Txns ∧ l'.Pairwise fun x y => ¬ cmpTxn y x < 0

theorem k_historyAll {σ : Heap} {g : Nat} {cs : List Value} (h0 : σ 0 = some (.glob g cs)) (s : State) (hlen : s.Txns.length ≤ 1000000) (h1 : s.Undos.length ≤ 1000000) (h2 : s.Undos.Pairwise fun a b => dlt a.D b.D) (h3 : s.Sealed.More.length ≤ 1000000) (h4 : s.Sealed.More.Pairwise dlt)
    (h5 : ∀ t ∈ s.Txns, t.Ops.length ≤ 1000000) : CallsA prog 16 [encState s] σ fun r τ => τ = σ ∧ ∃ l', HistL s l' ∧ r = encL 8 encRow (l'.map (rowOf_ s)) := by
  refine CallsA.fresh fun c0 hc0 => ?_
  refine wa16 ?_
  unfold c16
  simp -dsimp (disch := first | omega | assumption) only [↓PB, ↓reduceIte, QB, QC, QD, QE, Nat.reduceAdd, Nat.reduceMul, Nat.reduceEqDiff, Nat.reduceLT, Nat.reduceLeDiff, reduceCtorEq, QF, QG, QH, QI]
  try simp -dsimp (disch := first | omega | assumption) only [↓PB, ↓reduceIte, QB, QC, QD, QE, Nat.reduceAdd, Nat.reduceMul, Nat.reduceEqDiff, Nat.reduceLT, Nat.reduceLeDiff, reduceCtorEq, QF, QG, QH, QI]
  refine CallG.calls (k_values s.Txns) ⟨_, _, c0, hc0, rfl, rfl⟩ ?_
  rintro _ _ ⟨b, hb, rfl, rfl⟩
  have hb0 : b ≠ 0 := fun e => by rw [e, h0] at hb; cases hb
  try simp -dsimp (disch := first | omega | assumption) only [↓PB, ↓reduceIte, QB, QC, QD, QE, Nat.reduceAdd, Nat.reduceMul, Nat.reduceEqDiff, Nat.reduceLT, Nat.reduceLeDiff, reduceCtorEq, QF, QG, QH, QI]
  refine CallG.calls (k_sortedFunc (l := s.Txns) (by rw [upd_ne _ _ (Ne.symm hb0)]; exact h0) (upd_same _ _ _) (by omega)) (by obtain ⟨l', hp, hs⟩ := sorted_ex s.Txns; exact ⟨_, _, rfl, l', hp, hs, rfl⟩) ?_
  rintro _ _ ⟨rfl, l', hp, hs, rfl⟩
  try simp -dsimp (disch := first | omega | assumption) only [↓PB, ↓reduceIte, QB, QC, QD, QE, Nat.reduceAdd, Nat.reduceMul, Nat.reduceEqDiff, Nat.reduceLT, Nat.reduceLeDiff, reduceCtorEq, QF, QG, QH, QI]
  have hop : ∀ t ∈ l', t.Ops.length ≤ 1000000 := fun t ht => h5 t (hp.mem_iff.1 ht)
  have hln : l'.length = s.Txns.length := hp.length_eq
  refine loop_a l'.length 4 8 (fun i es e => ∃ m : List Txn, es = m.map (fun t => encRow (rowOf_ s t)) ∧ e 13 = .int i ∧ l'.take i = m ∧ m.length ≤ i) 0 (by omega) (by simp -dsimp (disch := first | omega | assumption) only [↓PB, ↓reduceIte, QB, QC, QD, QE, Nat.reduceAdd, Nat.reduceMul, Nat.reduceEqDiff, Nat.reduceLT, Nat.reduceLeDiff, reduceCtorEq, QF, QG, QH, QI, *]) (by decide) (fun x => ⟨[], rfl, by simp -dsimp (disch := first | omega | assumption) only [↓PB, ↓reduceIte, QB, QC, QD, QE, Nat.reduceAdd, Nat.reduceMul, Nat.reduceEqDiff, Nat.reduceLT, Nat.reduceLeDiff, reduceCtorEq, QF, QG, QH, QI, *] <;> rfl, rfl, by simp⟩) ?_
  rintro i e n c es hi hc ha h4' ⟨m, rfl, h13, hm, hml⟩
  have g1 := ha 1 (by decide)
  have g11 := ha 11 (by decide)
  have g12 := ha 12 (by decide)
  simp -dsimp (disch := first | omega | assumption) only [↓PB, ↓reduceIte, QB, QC, QD, QE, Nat.reduceAdd, Nat.reduceMul, Nat.reduceEqDiff, Nat.reduceLT, Nat.reduceLeDiff, reduceCtorEq, QF, QG, QH, QI, *] at g1 g11 g12
  clear ha
  unfold c16l0
  by_cases hlt : i < l'.length
  · have hk := hop _ (List.getElem_mem hlt)
    repeat' (first
      | (with_reducible refine CallG.pure (k_historyRow _ _ h1 h2 h3 h4 hk) ?_)
      | (with_reducible refine CallQ.pure (k_historyRow _ _ h1 h2 h3 h4 hk) ?_)
      | (with_reducible refine condD (fun _ => ?_) (fun _ => ?_)) <;> try (exfalso; omega)
      | (with_reducible refine condB (fun _ => ?_) (fun _ => ?_))
      | (with_reducible refine guardD (fun _ => ?_) (fun _ => ?_)) <;> try (exfalso; omega)
      | (with_reducible refine guardB (fun _ => ?_) (fun _ => ?_))
      | (with_reducible refine app_row (by assumption) src_lst (by simp only [List.length_map, List.length_append, List.length_cons, List.length_nil]; omega) (by simp only [List.length_map, List.length_append, List.length_cons, List.length_nil]; omega) (fun _ _ => ?_))
      | (simp -dsimp (disch := first | omega | assumption) only [↓PB, ↓reduceIte, QB, QC, QD, QE, Nat.reduceAdd, Nat.reduceMul, Nat.reduceEqDiff, Nat.reduceLT, Nat.reduceLeDiff, reduceCtorEq, QF, QG, QH, QI, *]))
    exact ⟨_, _, by assumption, rfl, rfl, m ++ [l'[i]], by simp, by simp, by rw [List.take_succ_eq_append_getElem hlt, hm], by simp; omega⟩
  · repeat' (first
      | (with_reducible refine condD (fun _ => ?_) (fun _ => ?_)) <;> try (exfalso; omega)
      | (with_reducible refine condB (fun _ => ?_) (fun _ => ?_))
      | (with_reducible refine guardD (fun _ => ?_) (fun _ => ?_)) <;> try (exfalso; omega)
      | (with_reducible refine guardB (fun _ => ?_) (fun _ => ?_))
      | (with_reducible refine app_row (by assumption) src_lst (by simp only [List.length_map, List.length_append, List.length_cons, List.length_nil]; omega) (by simp only [List.length_map, List.length_append, List.length_cons, List.length_nil]; omega) (fun _ _ => ?_))
      | (simp -dsimp (disch := first | omega | assumption) only [↓PB, ↓reduceIte, QB, QC, QD, QE, Nat.reduceAdd, Nat.reduceMul, Nat.reduceEqDiff, Nat.reduceLT, Nat.reduceLeDiff, reduceCtorEq, QF, QG, QH, QI, *]))
    have hm' : m = l' := by rw [← hm]; exact List.take_of_length_le (by omega)
    clear hm
    subst hm'
    have := ret_row2 (σ := σ) (l := .mk) (l' := .mk) (es := m.map fun t => encRow (rowOf_ s t)) (sz := 8) (R := fun r τ => τ = σ ∧ ∃ l', HistL s l' ∧ r = encL 8 encRow (List.map (rowOf_ s) l')) hb hc ⟨rfl, m, ⟨hp, hs⟩, by simp [encL]⟩
    exact this
end Go.Av

