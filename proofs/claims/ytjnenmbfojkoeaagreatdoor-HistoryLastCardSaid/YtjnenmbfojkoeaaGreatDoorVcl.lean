/- Part 12 of the proof: own lemmas, of no statement. -/
import Derived.Test.YtjnenmbfojkoeaaGreatDoorVck
import Derived.Test.YtjnenmbfojkoeaaGreatDoorVcf
import Derived.Test.YtjnenmbfojkoeaaGreatDoorProg
import Derived.Test.YtjnenmbfojkoeaaGreatDoorTie
import Derived.Test.YtjnenmbfojkoeaaGreatDoorCards
import Derived.ProofKit
import Derived.OpenShut
import Derived.LaidMore
import Derived.Lay
import Derived.Carry
import Derived.SevenTiedAt
import Derived.Stop.Joined
import Derived.ChangeSame
set_option linter.unusedSimpArgs false
set_option linter.unusedVariables false
set_option linter.defProp false
namespace Go.Av
open Go.Proofs.Tryz
set_option maxRecDepth 100000
set_option linter.unusedSimpArgs false
set_option linter.unusedVariables false

/- l41.same -/
def c18 : ICode :=
  .seq (.region 3 [⟨(some 2), .bbox 0 (.t 0), none⟩,
    ⟨(some 3), .bbox 1 (.t 1), none⟩,
    ⟨(some 4), .mov (.c (.bool false)), none⟩]) <|
  .seq (.region 48 [⟨(some 5), .faddr (some 2) 0 (.b 2), none⟩,
    ⟨(some 6), .load (some 2) 2 true (.t 5), none⟩,
    ⟨(some 7), .faddr (some 3) 0 (.b 3), none⟩,
    ⟨(some 8), .load (some 3) 2 true (.t 7), none⟩,
    ⟨(some 9), .eql false [.int .i64, .int .i64] (.t 6) (.t 8), none⟩,
    ⟨(some 10), .mov (.t 9), none⟩,
    ⟨(some 11), .faddr (some 2) 2 (.b 2), (some (10, true))⟩,
    ⟨(some 12), .load (some 2) 1 false (.t 11), (some (10, true))⟩,
    ⟨(some 13), .faddr (some 3) 2 (.b 3), (some (10, true))⟩,
    ⟨(some 14), .load (some 3) 1 false (.t 13), (some (10, true))⟩,
    ⟨(some 15), .bin .eql (.t 12) (.t 14), (some (10, true))⟩,
    ⟨(some 16), .pick (.t 10) (.t 15) (.c (.bool false)), none⟩,
    ⟨(some 17), .mov (.t 16), none⟩,
    ⟨(some 18), .faddr (some 2) 3 (.b 2), (some (17, true))⟩,
    ⟨(some 19), .load (some 2) 1 false (.t 18), (some (17, true))⟩,
    ⟨(some 20), .faddr (some 3) 3 (.b 3), (some (17, true))⟩,
    ⟨(some 21), .load (some 3) 1 false (.t 20), (some (17, true))⟩,
    ⟨(some 22), .bin .eql (.t 19) (.t 21), (some (17, true))⟩,
    ⟨(some 23), .pick (.t 17) (.t 22) (.c (.bool false)), none⟩,
    ⟨(some 24), .mov (.t 23), none⟩,
    ⟨(some 25), .faddr (some 2) 4 (.b 2), (some (24, true))⟩,
    ⟨(some 26), .load (some 2) 1 false (.t 25), (some (24, true))⟩,
    ⟨(some 27), .faddr (some 3) 4 (.b 3), (some (24, true))⟩,
    ⟨(some 28), .load (some 3) 1 false (.t 27), (some (24, true))⟩,
    ⟨(some 29), .bin .eql (.t 26) (.t 28), (some (24, true))⟩,
    ⟨(some 30), .pick (.t 24) (.t 29) (.c (.bool false)), none⟩,
    ⟨(some 31), .mov (.t 30), none⟩,
    ⟨(some 32), .faddr (some 2) 5 (.b 2), (some (31, true))⟩,
    ⟨(some 33), .load (some 2) 1 false (.t 32), (some (31, true))⟩,
    ⟨(some 34), .faddr (some 3) 5 (.b 3), (some (31, true))⟩,
    ⟨(some 35), .load (some 3) 1 false (.t 34), (some (31, true))⟩,
    ⟨(some 36), .bin .eql (.t 33) (.t 35), (some (31, true))⟩,
    ⟨(some 37), .pick (.t 31) (.t 36) (.c (.bool false)), none⟩,
    ⟨(some 38), .mov (.t 37), none⟩,
    ⟨(some 39), .faddr (some 2) 6 (.b 2), (some (38, true))⟩,
    ⟨(some 40), .load (some 2) 1 false (.t 39), (some (38, true))⟩,
    ⟨(some 41), .faddr (some 3) 6 (.b 3), (some (38, true))⟩,
    ⟨(some 42), .load (some 3) 1 false (.t 41), (some (38, true))⟩,
    ⟨(some 43), .eqb false (.t 40) (.t 42), (some (38, true))⟩,
    ⟨(some 44), .pick (.t 38) (.t 43) (.c (.bool false)), none⟩,
    ⟨(some 45), .mov (.t 44), none⟩,
    ⟨(some 46), .faddr (some 2) 7 (.b 2), (some (45, true))⟩,
    ⟨(some 47), .load (some 2) 1 false (.t 46), (some (45, true))⟩,
    ⟨(some 48), .faddr (some 3) 7 (.b 3), (some (45, true))⟩,
    ⟨(some 49), .load (some 3) 1 false (.t 48), (some (45, true))⟩,
    ⟨(some 50), .eqb false (.t 47) (.t 49), (some (45, true))⟩,
    ⟨(some 51), .pick (.t 45) (.t 50) (.c (.bool false)), none⟩,
    ⟨(some 4), .mov (.t 51), none⟩]) <|
  .ret
def ir18 : IFn := ⟨52, [2, 3], 2, [.tmp 4], c18⟩
theorem ok18 : compFn prog [2, 3] [] f18 = some ir18 := by kernel_rfl
theorem wp18 {a0 a1 : AV} {r : AV} (H : ∀ σ, WpI prog c18 (retQ [.tmp 4] fun v s => v = r ∧ s = σ) (argE [a0, a1]) 0 σ) : Pure prog 18 [a0, a1] r := @pure_of_wp prog hm 18 f18 [2, 3] [] ir18 [a0, a1] r func18 ok18 (Nat.le_of_ble_eq_true rfl) H
theorem wa18 {a0 a1 : AV} {σ : Heap} {R : AV → Heap → Prop} (H : WpI prog c18 (retQ [.tmp 4] R) (argE [a0, a1]) 0 σ) : CallsA prog 18 [a0, a1] σ R := @callsA_of_wp prog [2, 3] hm 18 f18 [] ir18 [a0, a1] σ R func18 ok18 (Nat.le_of_ble_eq_true rfl) H
/- l41.awake -/
def c15 : ICode :=
  .seq (.region 1 [⟨(some 0), .mov (.c (.bool false)), none⟩]) <|
  .seq (.region 5 [⟨(some 1), .build (.agg [(.int 0), (.int 0)]) [(1, 1, (.c (.int 2)))], none⟩,
    ⟨(some 2), .build (.agg [(.int 0), (.int 0), (.int 0), (.int 0), (.int 0), (.int 0), (.bool false), (.bool false)]) [(0, 2, (.t 1)), (2, 1, (.c (.int 1))), (3, 1, (.c (.int 5))), (4, 1, (.c (.int 3))), (5, 1, (.c (.int 1))), (7, 1, (.c (.bool true)))], none⟩,
    ⟨(some 3), .call (.c (.clo 21 [])) [(.t 2)], none⟩,
    ⟨(some 4), .bin .eql (.t 3) (.c (.str ⟨#[53, 32, 48, 46, 50, 32, 117, 115, 101, 114, 32, 49, 32, 111, 112, 115, 32, 51, 32, 117, 110, 100, 111, 110, 101, 32, 49, 32, 115, 101, 97, 108, 101, 100]⟩)), none⟩,
    ⟨(some 0), .mov (.t 4), none⟩]) <|
  .ret
def ir15 : IFn := ⟨5, [], 0, [.tmp 0], c15⟩
theorem ok15 : compFn prog [] [] f15 = some ir15 := by kernel_rfl
theorem wp15 {r : AV} (H : ∀ σ, WpI prog c15 (retQ [.tmp 0] fun v s => v = r ∧ s = σ) (argE []) 0 σ) : Pure prog 15 [] r := @pure_of_wp prog hm 15 f15 [] [] ir15 [] r func15 ok15 (Nat.le_of_ble_eq_true rfl) H
theorem wa15 {σ : Heap} {R : AV → Heap → Prop} (H : WpI prog c15 (retQ [.tmp 0] R) (argE []) 0 σ) : CallsA prog 15 [] σ R := @callsA_of_wp prog [] hm 15 f15 [] ir15 [] σ R func15 ok15 (Nat.le_of_ble_eq_true rfl) H
/- l41.HistoryTells -/
def cz3l0 : ICode :=
  .seq (.seq (.region 4 [⟨(some 22), .mov (.t 7), none⟩,
    ⟨(some 23), .mov (.t 5), none⟩,
    ⟨(some 24), .len (.t 23), none⟩,
    ⟨(some 25), .bin .lss (.t 22) (.t 24), none⟩]) <|
  .cond (.t 25) (.skip) (.exit 0)) <|
  .seq (.block 1 (.seq (.region 10 [⟨(some 28), .mov (.t 5), none⟩,
    ⟨(some 29), .mov (.t 7), none⟩,
    ⟨(some 30), .iaddrS 8 (.t 28) (.t 29), none⟩,
    ⟨(some 31), .load none 8 true (.t 30), none⟩,
    ⟨(some 32), .mov (.t 6), none⟩,
    ⟨(some 33), .mov (.t 7), none⟩,
    ⟨(some 34), .iaddrS 8 (.t 32) (.t 33), none⟩,
    ⟨(some 35), .load none 8 true (.t 34), none⟩,
    ⟨(some 36), .call (.c (.clo 18 [])) [(.t 31), (.t 35)], none⟩,
    ⟨(some 37), .un .not (.t 36), none⟩]) <|
  .cond (.t 37) (.seq (.region 1 [⟨(some 4), .mov (.c (.bool false)), none⟩]) <|
  .ret) (.skip))) <|
  .region 3 [⟨(some 26), .mov (.t 7), none⟩,
    ⟨(some 27), .bin .add (.t 26) (.c (.int 1)), none⟩,
    ⟨(some 7), .mov (.t 27), none⟩]
def cz3 : ICode :=
  .seq (.region 3 [⟨(some 2), .bbox 0 (.t 0), none⟩,
    ⟨(some 3), .bbox 1 (.t 1), none⟩,
    ⟨(some 4), .mov (.c (.bool false)), none⟩]) <|
  .seq (.seq (.region 3 [⟨(some 9), .load (some 2) 44 true (.b 2), none⟩,
    ⟨(some 10), .call (.c (.clo 14 [])) [(.t 9)], none⟩,
    ⟨(some 11), .un .not (.t 10), none⟩]) <|
  .cond (.t 11) (.seq (.region 2 [⟨(some 12), .call (.c (.clo 15 [])) [], none⟩,
    ⟨(some 4), .mov (.t 12), none⟩]) <|
  .ret) (.skip)) <|
  .seq (.region 6 [⟨(some 13), .load (some 2) 44 true (.b 2), none⟩,
    ⟨(some 14), .call (.c (.clo 16 [])) [(.t 13)], none⟩,
    ⟨(some 15), .load (some 2) 44 true (.b 2), none⟩,
    ⟨(some 16), .call (.c (.clo 17 [])) [(.t 15)], none⟩,
    ⟨(some 5), .mov (.t 14), none⟩,
    ⟨(some 6), .mov (.t 16), none⟩]) <|
  .seq (.seq (.region 5 [⟨(some 17), .mov (.t 5), none⟩,
    ⟨(some 18), .len (.t 17), none⟩,
    ⟨(some 19), .mov (.t 6), none⟩,
    ⟨(some 20), .len (.t 19), none⟩,
    ⟨(some 21), .bin .neq (.t 18) (.t 20), none⟩]) <|
  .cond (.t 21) (.seq (.region 1 [⟨(some 4), .mov (.c (.bool false)), none⟩]) <|
  .ret) (.skip)) <|
  .seq (.seq (.region 1 [⟨(some 7), .mov (.c (.int 0)), none⟩]) <|
  .block 0 (.loop cz3l0)) <|
  .seq (.region 17 [⟨(some 38), .faddr (some 3) 0 (.b 3), none⟩,
    ⟨(some 39), .load (some 3) 2 true (.t 38), none⟩,
    ⟨(some 40), .faddr (some 3) 2 (.b 3), none⟩,
    ⟨(some 41), .load (some 3) 1 false (.t 40), none⟩,
    ⟨(some 42), .faddr (some 3) 3 (.b 3), none⟩,
    ⟨(some 43), .load (some 3) 1 false (.t 42), none⟩,
    ⟨(some 44), .faddr (some 3) 4 (.b 3), none⟩,
    ⟨(some 45), .load (some 3) 1 false (.t 44), none⟩,
    ⟨(some 46), .faddr (some 3) 5 (.b 3), none⟩,
    ⟨(some 47), .load (some 3) 1 false (.t 46), none⟩,
    ⟨(some 48), .faddr (some 3) 6 (.b 3), none⟩,
    ⟨(some 49), .load (some 3) 1 false (.t 48), none⟩,
    ⟨(some 50), .faddr (some 3) 7 (.b 3), none⟩,
    ⟨(some 51), .load (some 3) 1 false (.t 50), none⟩,
    ⟨(some 52), .build (.agg [(.int 0), (.int 0), (.int 0), (.int 0), (.int 0), (.int 0), (.bool false), (.bool false)]) [(0, 2, (.t 39)), (2, 1, (.t 41)), (3, 1, (.t 43)), (4, 1, (.t 45)), (5, 1, (.t 47)), (6, 1, (.t 49)), (7, 1, (.t 51))], none⟩,
    ⟨(some 8), .nbox 15 (.agg [(.int 0), (.int 0), (.int 0), (.int 0), (.int 0), (.int 0), (.bool false), (.bool false)]), none⟩,
    ⟨none, .store (some 8) 8 (.b 8) (.t 52), none⟩]) <|
  .seq (.region 16 [⟨(some 53), .mov (.t 5), none⟩,
    ⟨(some 54), .call (.c (.clo 19 [])) [(.t 53)], none⟩,
    ⟨(some 55), .mov (.t 6), none⟩,
    ⟨(some 56), .call (.c (.clo 20 [])) [(.t 55)], none⟩,
    ⟨(some 57), .bin .eql (.t 54) (.t 56), none⟩,
    ⟨(some 58), .mov (.t 57), none⟩,
    ⟨(some 59), .load (some 8) 8 true (.b 8), (some (58, true))⟩,
    ⟨(some 60), .call (.c (.clo 21 [])) [(.t 59)], (some (58, true))⟩,
    ⟨(some 61), .load (some 3) 8 true (.b 3), (some (58, true))⟩,
    ⟨(some 62), .call (.c (.clo 22 [])) [(.t 61)], (some (58, true))⟩,
    ⟨(some 63), .bin .eql (.t 60) (.t 62), (some (58, true))⟩,
    ⟨(some 64), .pick (.t 58) (.t 63) (.c (.bool false)), none⟩,
    ⟨(some 65), .mov (.t 64), none⟩,
    ⟨(some 66), .call (.c (.clo 15 [])) [], (some (65, true))⟩,
    ⟨(some 67), .pick (.t 65) (.t 66) (.c (.bool false)), none⟩,
    ⟨(some 4), .mov (.t 67), none⟩]) <|
  .ret
def ir3 : IFn := ⟨68, [2, 3, 8], 2, [.tmp 4], cz3⟩
theorem ok3 : compFn prog [2, 3, 8] [] f3 = some ir3 := by kernel_rfl
theorem wp3 {a0 a1 : AV} {r : AV} (H : ∀ σ, WpI prog cz3 (retQ [.tmp 4] fun v s => v = r ∧ s = σ) (argE [a0, a1]) 0 σ) : Pure prog 3 [a0, a1] r := @pure_of_wp prog hm 3 f3 [2, 3, 8] [] ir3 [a0, a1] r func3 ok3 (Nat.le_of_ble_eq_true rfl) H
theorem wa3 {a0 a1 : AV} {σ : Heap} {R : AV → Heap → Prop} (H : WpI prog cz3 (retQ [.tmp 4] R) (argE [a0, a1]) 0 σ) : CallsA prog 3 [a0, a1] σ R := @callsA_of_wp prog [2, 3, 8] hm 3 f3 [] ir3 [a0, a1] σ R func3 ok3 (Nat.le_of_ble_eq_true rfl) H


theorem insT_pw (x : Txn) (m : List Txn) (h : m.Pairwise fun x y => ¬ cmpTxn y x < 0) : (insT x m).Pairwise fun x y => ¬ cmpTxn y x < 0 := by
  induction m with
  | nil => simp [insT]
  | cons y l ih =>
    have hy := List.pairwise_cons.1 h
    have hw := fun a b => cmpTxn_lt a b
    simp only [Go.Proofs.ltOf, decide_eq_true_iff] at hw
    unfold insT
    split
    · rename_i hlt
      refine List.pairwise_cons.2 ⟨fun z hz => ?_, ih hy.2⟩
      rcases List.mem_cons.1 ((insT_perm x l).mem_iff.1 hz) with rfl | hz
      · rw [hw] at hlt ⊢; unfold dlt at *; omega
      · exact hy.1 z hz
    · rename_i hlt
      refine List.pairwise_cons.2 ⟨fun z hz => ?_, h⟩
      rcases List.mem_cons.1 hz with rfl | hz
      · exact hlt
      · have := hy.1 z hz
        rw [hw] at hlt this ⊢; unfold dlt at *; omega

theorem sortIns_pw (l : List Txn) : (sortIns l).Pairwise fun x y => ¬ cmpTxn y x < 0 := by
  have : ∀ (l acc : List Txn), acc.Pairwise (fun x y => ¬ cmpTxn y x < 0) → (l.foldl (fun acc x => insT x acc) acc).Pairwise fun x y => ¬ cmpTxn y x < 0 := by
    intro l
    induction l with
    | nil => intro acc h; exact h
    | cons x l ih => intro acc h; exact ih _ (insT_pw x acc h)
  exact this l [] .nil

theorem histL_eq {s : State} (hr : s.Txns.Pairwise fun a b => dlt a.D b.D) {l' : List Txn} (h : HistL s l') : l' = sortIns s.Txns := by
  have hw := fun a b => cmpTxn_lt a b
  simp only [Go.Proofs.ltOf, decide_eq_true_iff] at hw
  have hinj : ∀ a ∈ s.Txns, ∀ b ∈ s.Txns, a.D = b.D → a = b := by
    intro a ha b hb hd
    obtain ⟨i, hi, rfl⟩ := List.mem_iff_getElem.1 ha
    obtain ⟨j, hj, rfl⟩ := List.mem_iff_getElem.1 hb
    rw [List.pairwise_iff_getElem] at hr
    rcases Nat.lt_trichotomy i j with h | h | h
    · have := hr i j hi hj h; rw [hd] at this; exact absurd this dlt_irr
    · subst h; rfl
    · have := hr j i hj hi h; rw [hd] at this; exact absurd this dlt_irr
  refine List.Perm.eq_of_pairwise (le := fun x y => ¬ cmpTxn y x < 0) (fun a b ha hb h1 h2 => ?_) h.2 (sortIns_pw _) (h.1.trans (sortIns_perm _).symm)
  rw [hw] at h1 h2
  refine hinj a (h.1.mem_iff.1 ha) b (sortIns_mem hb) ?_
  rw [Dot.ext_iff]; unfold dlt at *; omega

theorem txnsRise_pw {l : List Txn} (h : txnsRise l = true) : l.Pairwise fun a b => dlt a.D b.D := pw_dlt (g := Txn.D) h

theorem k_l41_same (a b : Row) : Pure prog 18 [encRow a, encRow b] (.bool (decide (a = b))) := by
  refine wp18 fun σ => ?_
  unfold c18
  simp -dsimp (disch := first | omega | assumption) only [↓PB, ↓reduceIte, QB, QC, QD, QE, Nat.reduceAdd, Nat.reduceMul, Nat.reduceEqDiff, Nat.reduceLT, Nat.reduceLeDiff, reduceCtorEq, QF, QG, QH, QI, QJ]
  repeat' (first
    | (with_reducible refine condD (fun _ => ?_) (fun _ => ?_)) <;> try (exfalso; omega)
    | (with_reducible refine condB (fun _ => ?_) (fun _ => ?_))
    | (with_reducible refine guardD (fun _ => ?_) (fun _ => ?_)) <;> try (exfalso; omega)
    | (with_reducible refine guardB (fun _ => ?_) (fun _ => ?_))
    | (with_reducible refine app_row (by assumption) src_lst (by simp only [List.length_map, List.length_append, List.length_cons, List.length_nil]; omega) (by simp only [List.length_map, List.length_append, List.length_cons, List.length_nil]; omega) (fun _ _ => ?_))
    | (simp -dsimp (disch := first | omega | assumption) only [↓PB, ↓reduceIte, QB, QC, QD, QE, Nat.reduceAdd, Nat.reduceMul, Nat.reduceEqDiff, Nat.reduceLT, Nat.reduceLeDiff, reduceCtorEq, QF, QG, QH, QI, QJ, *]))
  all_goals refine RetG.same ⟨congrArg AV.bool ?_, rfl⟩
  all_goals rw [Bool.eq_iff_iff]
  all_goals simp_all [Row.ext_iff]

def awR : Row := ⟨⟨0, 2⟩, 1, 5, 3, 1, false, true⟩
theorem awLine : lineB awR = ⟨#[53, 32, 48, 46, 50, 32, 117, 115, 101, 114, 32, 49, 32, 111, 112, 115, 32, 51, 32, 117, 110, 100, 111, 110, 101, 32, 49, 32, 115, 101, 97, 108, 101, 100]⟩ := by
  unfold lineB lineHead lineMid lineEnd dotTextB awR
  rw [itoaB_small (n := 5) (by decide) (by decide), itoaB_small (n := 0) (by decide) (by decide), itoaB_small (n := 2) (by decide) (by decide), itoaB_small (n := 1) (by decide) (by decide), itoaB_small (n := 3) (by decide) (by decide)]
  rfl
theorem awOk : RowOk awR := ⟨⟨by decide, by decide⟩, ⟨by decide, by decide⟩, ⟨by decide, by decide⟩, ⟨by decide, by decide⟩, ⟨by decide, by decide⟩, ⟨by decide, by decide⟩⟩
theorem k_l41_awake {σ : Heap} (h0 : Tab σ) : PureAt prog 15 [] σ (.bool true) := by
  have hb1 : buildA (encDot ⟨0, 0⟩) [(1, 1, AV.int 2)] = some (encDot ⟨0, 2⟩) := rfl
  have hb2 : buildA (encRow ⟨⟨0, 0⟩, 0, 0, 0, 0, false, false⟩) [(0, 2, encDot ⟨0, 2⟩), (2, 1, AV.int 1), (3, 1, AV.int 5), (4, 1, AV.int 3), (5, 1, AV.int 1), (7, 1, AV.bool true)] = some (encRow awR) := rfl
  have hl := k_historyLine h0 awR awOk
  rw [awLine] at hl
  refine wa15 ?_
  unfold c15
  simp -dsimp (disch := first | omega | assumption) only [↓PB, ↓reduceIte, QB, QC, QD, QE, Nat.reduceAdd, Nat.reduceMul, Nat.reduceEqDiff, Nat.reduceLT, Nat.reduceLeDiff, reduceCtorEq, QF, QG, QH, QI, QJ]
  repeat' (first
    | (refine CallG.at hl ?_)
    | (with_reducible refine condD (fun _ => ?_) (fun _ => ?_)) <;> try (exfalso; omega)
    | (with_reducible refine condB (fun _ => ?_) (fun _ => ?_))
    | (with_reducible refine guardD (fun _ => ?_) (fun _ => ?_)) <;> try (exfalso; omega)
    | (with_reducible refine guardB (fun _ => ?_) (fun _ => ?_))
    | (with_reducible refine app_row (by assumption) src_lst (by simp only [List.length_map, List.length_append, List.length_cons, List.length_nil]; omega) (by simp only [List.length_map, List.length_append, List.length_cons, List.length_nil]; omega) (fun _ _ => ?_))
    | (simp -dsimp (disch := first | omega | assumption) only [↓PB, ↓reduceIte, QB, QC, QD, QE, Nat.reduceAdd, Nat.reduceMul, Nat.reduceEqDiff, Nat.reduceLT, Nat.reduceLeDiff, reduceCtorEq, QF, QG, QH, QI, QJ, *]))
  exact RetG.same ⟨rfl, rfl⟩

theorem stateGood_tx {s : State} (h : stateGood s = true) : s.Txns.Pairwise (fun a b => dlt a.D b.D) ∧ (s.Undos.Pairwise fun a b => dlt a.D b.D) ∧ s.Sealed.More.Pairwise dlt ∧ smState s := by
  simp only [stateGood, stateRight, Bool.and_eq_true] at h
  obtain ⟨h1, h2⟩ := h
  exact ⟨txnsRise_pw h2.1.1.1.1.1.1.2, undosRight_pw h2.1.1.1.1.1.2, dotsRight_pw h2.1.1.1.1.2, smState_of h1⟩

/-- Its numbers are ints. -/
def intState (s : State) : Prop := (∀ t ∈ s.Txns, iok t.D.R ∧ iok t.D.N ∧ iok t.User ∧ iok t.Time) ∧ ∀ u ∈ s.Undos, iok u.N

theorem iok_small {n : Int} (h0 : 0 ≤ n) (h : n ≤ 1000000) : iok n := ⟨by omega, by omega⟩
theorem rowOk_rowOf {s : State} (hs : smState s) (hi : intState s) {t : Txn} (ht : t ∈ s.Txns) : RowOk (rowOf_ s t) := by
  obtain ⟨a1, a2, a3, a4⟩ := hi.1 t ht
  have h1 := (hs.2.1 t ht).1
  have h2 := List.length_filter_le (fun o => !opGone o) t.Ops
  refine ⟨a1, a2, a3, a4, iok_small (by simp [rowOf_, rowN]) (by simp only [rowOf_, rowN]; omega), ?_⟩
  simp only [rowOf_, rowN, getU]
  split
  · rename_i u hu
    exact hi.2 u (List.mem_of_find?_eq_some hu)
  · exact iok_small (by decide) (by decide)

def histOf (s : State) : List Row := (sortIns s.Txns).map (rowOf_ s)

theorem k_historyAll' {σ : Heap} (h0 : Tab σ) (s : State) (hg : stateGood s = true) : PureAt prog 16 [encState s] σ (encL 8 encRow (histOf s)) := by
  obtain ⟨h1, h2, h3, h4⟩ := stateGood_tx hg
  refine (k_historyAll h0 s h4.1 h4.2.2.1 h2 h4.2.2.2.2.1 h3 (fun t ht => (h4.2.1 t ht).1)).mono ?_
  rintro r τ ⟨rfl, l', hl, rfl⟩
  exact ⟨by rw [histL_eq h1 hl]; rfl, rfl⟩

theorem k_HistoryTells {σ : Heap} (h0 : Tab σ) (s : State) (hs : okState s) (hi : intState s) (r : Row) (hr : RowOk r) : PureAt prog 3 [encState s, encRow r] σ (.bool true) := by
  refine wa3 ?_
  unfold cz3
  simp -dsimp (disch := first | omega | assumption) only [↓PB, ↓reduceIte, QB, QC, QD, QE, Nat.reduceAdd, Nat.reduceMul, Nat.reduceEqDiff, Nat.reduceLT, Nat.reduceLeDiff, reduceCtorEq, QF, QG, QH, QI, QJ]
  repeat' (first
    | (with_reducible refine CallG.pure (k_r22_Good s hs) ?_)
    | (with_reducible refine CallQ.pure (k_r22_Good s hs) ?_)
    | (refine CallG.at (k_l41_awake h0) ?_)
    | (with_reducible refine condD (fun _ => ?_) (fun _ => ?_)) <;> try (exfalso; omega)
    | (with_reducible refine condB (fun _ => ?_) (fun _ => ?_))
    | (with_reducible refine guardD (fun _ => ?_) (fun _ => ?_)) <;> try (exfalso; omega)
    | (with_reducible refine guardB (fun _ => ?_) (fun _ => ?_))
    | (with_reducible refine app_row (by assumption) src_lst (by simp only [List.length_map, List.length_append, List.length_cons, List.length_nil]; omega) (by simp only [List.length_map, List.length_append, List.length_cons, List.length_nil]; omega) (fun _ _ => ?_))
    | (simp -dsimp (disch := first | omega | assumption) only [↓PB, ↓reduceIte, QB, QC, QD, QE, Nat.reduceAdd, Nat.reduceMul, Nat.reduceEqDiff, Nat.reduceLT, Nat.reduceLeDiff, reduceCtorEq, QF, QG, QH, QI, QJ, *]))
  · rename_i hg
    obtain ⟨g1, g2, g3, g4⟩ := stateGood_tx hg
    have hrows : ∀ x ∈ histOf s, RowOk x := fun x hx => by
      obtain ⟨t, ht, rfl⟩ := List.mem_map.1 hx
      exact rowOk_rowOf g4 hi (sortIns_mem ht)
    have hlen : (histOf s).length ≤ 1000000 := by
      rw [histOf, List.length_map, (sortIns_perm _).length_eq]; exact g4.1
    have kA := k_r41_All s g4
    change Pure prog _ _ (encL 8 encRow (histOf s)) at kA
    have kH := k_historyAll' h0 s hg
    have kT := k_r41_Text (histOf s) hrows hlen
    have kT' := k_historyText h0 (histOf s) hrows hlen
    have kL := k_r41_Line r hr
    have kL' := k_historyLine h0 r hr
    generalize histOf s = L at *
    repeat' (first
      | (with_reducible refine CallG.pure (kA) ?_)
      | (with_reducible refine CallQ.pure (kA) ?_)
      | (refine CallG.at kH ?_)
      | (with_reducible refine condD (fun _ => ?_) (fun _ => ?_)) <;> try (exfalso; omega)
      | (with_reducible refine condB (fun _ => ?_) (fun _ => ?_))
      | (with_reducible refine guardD (fun _ => ?_) (fun _ => ?_)) <;> try (exfalso; omega)
      | (with_reducible refine guardB (fun _ => ?_) (fun _ => ?_))
      | (with_reducible refine app_row (by assumption) src_lst (by simp only [List.length_map, List.length_append, List.length_cons, List.length_nil]; omega) (by simp only [List.length_map, List.length_append, List.length_cons, List.length_nil]; omega) (fun _ _ => ?_))
      | (simp -dsimp (disch := first | omega | assumption) only [↓PB, ↓reduceIte, QB, QC, QD, QE, Nat.reduceAdd, Nat.reduceMul, Nat.reduceEqDiff, Nat.reduceLT, Nat.reduceLeDiff, reduceCtorEq, QF, QG, QH, QI, QJ, *]))
    refine loop_p L.length (fun i e => e 7 = .int i) 0 (by omega) (by simp -dsimp (disch := first | omega | assumption) only [↓PB, ↓reduceIte, QB, QC, QD, QE, Nat.reduceAdd, Nat.reduceMul, Nat.reduceEqDiff, Nat.reduceLT, Nat.reduceLeDiff, reduceCtorEq, QF, QG, QH, QI, QJ, *] <;> rfl) ?_
    rintro i e n hi' ha h7
    have f3 := ha 3 (by decide)
    have f5 := ha 5 (by decide)
    have f6 := ha 6 (by decide)
    simp -dsimp (disch := first | omega | assumption) only [↓PB, ↓reduceIte, QB, QC, QD, QE, Nat.reduceAdd, Nat.reduceMul, Nat.reduceEqDiff, Nat.reduceLT, Nat.reduceLeDiff, reduceCtorEq, QF, QG, QH, QI, QJ, *] at f3 f5 f6
    clear ha
    unfold cz3l0
    by_cases hlt : i < L.length
    · repeat' (first
        | (with_reducible refine CallG.pure (k_l41_same _ _) ?_)
        | (with_reducible refine CallQ.pure (k_l41_same _ _) ?_)
        | (with_reducible refine condD (fun _ => ?_) (fun _ => ?_)) <;> try (exfalso; omega)
        | (with_reducible refine condB (fun _ => ?_) (fun _ => ?_))
        | (with_reducible refine guardD (fun _ => ?_) (fun _ => ?_)) <;> try (exfalso; omega)
        | (with_reducible refine guardB (fun _ => ?_) (fun _ => ?_))
        | (with_reducible refine app_row (by assumption) src_lst (by simp only [List.length_map, List.length_append, List.length_cons, List.length_nil]; omega) (by simp only [List.length_map, List.length_append, List.length_cons, List.length_nil]; omega) (fun _ _ => ?_))
        | (simp -dsimp (disch := first | omega | assumption) only [↓PB, ↓reduceIte, QB, QC, QD, QE, Nat.reduceAdd, Nat.reduceMul, Nat.reduceEqDiff, Nat.reduceLT, Nat.reduceLeDiff, reduceCtorEq, QF, QG, QH, QI, QJ, *]))
      simp
    · have hb1 : buildA (encRow ⟨⟨0, 0⟩, 0, 0, 0, 0, false, false⟩) [(0, 2, encDot r.D), (2, 1, AV.int r.User), (3, 1, AV.int r.Time), (4, 1, AV.int r.Ops), (5, 1, AV.int r.Turns), (6, 1, AV.bool r.Counts), (7, 1, AV.bool r.Fixed)] = some (encRow r) := rfl
      repeat' (first
        | (with_reducible refine CallG.pure (kT) ?_)
        | (with_reducible refine CallQ.pure (kT) ?_)
        | (with_reducible refine CallG.pure (kL) ?_)
        | (with_reducible refine CallQ.pure (kL) ?_)
        | (refine CallG.at kT' ?_)
        | (refine CallG.at kL' ?_)
        | (refine CallG.at (k_l41_awake h0) ?_)
        | (with_reducible refine condD (fun _ => ?_) (fun _ => ?_)) <;> try (exfalso; omega)
        | (with_reducible refine condB (fun _ => ?_) (fun _ => ?_))
        | (with_reducible refine guardD (fun _ => ?_) (fun _ => ?_)) <;> try (exfalso; omega)
        | (with_reducible refine guardB (fun _ => ?_) (fun _ => ?_))
        | (with_reducible refine app_row (by assumption) src_lst (by simp only [List.length_map, List.length_append, List.length_cons, List.length_nil]; omega) (by simp only [List.length_map, List.length_append, List.length_cons, List.length_nil]; omega) (fun _ _ => ?_))
        | (simp -dsimp (disch := first | omega | assumption) only [↓PB, ↓reduceIte, QB, QC, QD, QE, Nat.reduceAdd, Nat.reduceMul, Nat.reduceEqDiff, Nat.reduceLT, Nat.reduceLeDiff, reduceCtorEq, QF, QG, QH, QI, QJ, *]))
      exact RetG.same ⟨rfl, rfl⟩
  · exact RetG.same ⟨rfl, rfl⟩
end Go.Av

namespace Go.Av
open Go.Proofs.Tryz
set_option maxRecDepth 100000
set_option linter.unusedSimpArgs false
set_option linter.unusedVariables false

section
variable {H : Type} {enc : TypeId × Value → H} {w : World}
theorem rp_int : Reads enc prog w 3 (fun n : Int => [AV.int n]) (fun a : Int => iok a) := rd_int underlying3

theorem rp_Dot : Reads enc prog w 33 (fun x : Dot => (encDot x).cells) (fun a : Dot => wfDot a) := by
  intro fuel cs x h
  obtain ⟨xs, n, _, _, hlen, hxl, hall⟩ := DataW.trod_struct underlying33 h
  rw [show prog.cellsOf 33 = 2 from by kernel_rfl] at hlen
  have hx : xs.length = 2 := hxl
  have f0 : DataW.trod enc prog w 0 (fun _ => true) true n 3 ((cs.drop 0).take (prog.cellsOf 3)) = xs[0]? := hall 0 _ rfl
  rw [List.getElem?_eq_getElem (by omega)] at f0
  obtain ⟨a0, c0, o0⟩ := rp_int _ _ _ f0
  replace c0 : CellsR w ((fun n : Int => [AV.int n]) a0) ((cs.drop 0).take 1) := by
    have e0 : prog.cellsOf 3 = 1 := by kernel_rfl
    have c := c0
    simp only [e0] at c
    exact c
  have f1 : DataW.trod enc prog w 0 (fun _ => true) true n 3 ((cs.drop 1).take (prog.cellsOf 3)) = xs[1]? := hall 1 _ rfl
  rw [List.getElem?_eq_getElem (by omega)] at f1
  obtain ⟨a1, c1, o1⟩ := rp_int _ _ _ f1
  replace c1 : CellsR w ((fun n : Int => [AV.int n]) a1) ((cs.drop 1).take 1) := by
    have e1 : prog.cellsOf 3 = 1 := by kernel_rfl
    have c := c1
    simp only [e1] at c
    exact c
  have hc := (fs_cons c0 (fs_cons c1 (fs_end (by omega))))
  rw [List.drop_zero] at hc
  refine ⟨⟨a0, a1⟩, ?_, ⟨o0, o1⟩⟩
  simpa only [AV.cells, encDot, List.append_assoc, List.cons_append, List.nil_append, List.append_nil] using hc

theorem rp_bool : Reads enc prog w 4 (fun b : Bool => [AV.bool b]) (fun a : Bool => True) := rd_bool underlying4

theorem rp_str : Reads enc prog w 9 (fun s : ByteArray => [AV.str s]) (fun a : ByteArray => a.size ≤ 9223372036854775807) := rd_str underlying9

theorem rp_Lstr : Reads enc prog w 122 (fun l : List ByteArray => [(encL 1 AV.str) l]) (fun a : List ByteArray => (a.length ≤ 9223372036854775807 ∧ ∀ y ∈ a, y.size ≤ 9223372036854775807)) := rd_slice 1 (by decide) AV.str (.inr fun _ => ⟨rfl, rfl⟩) underlying122 (by kernel_rfl) rp_str

theorem rp_Val : Reads enc prog w 124 (fun x : Val => (encVal x).cells) (fun a : Val => wfVal a) := by
  intro fuel cs x h
  obtain ⟨xs, n, _, _, hlen, hxl, hall⟩ := DataW.trod_struct underlying124 h
  rw [show prog.cellsOf 124 = 3 from by kernel_rfl] at hlen
  have hx : xs.length = 3 := hxl
  have f0 : DataW.trod enc prog w 0 (fun _ => true) true n 3 ((cs.drop 0).take (prog.cellsOf 3)) = xs[0]? := hall 0 _ rfl
  rw [List.getElem?_eq_getElem (by omega)] at f0
  obtain ⟨a0, c0, o0⟩ := rp_int _ _ _ f0
  replace c0 : CellsR w ((fun n : Int => [AV.int n]) a0) ((cs.drop 0).take 1) := by
    have e0 : prog.cellsOf 3 = 1 := by kernel_rfl
    have c := c0
    simp only [e0] at c
    exact c
  have f1 : DataW.trod enc prog w 0 (fun _ => true) true n 3 ((cs.drop 1).take (prog.cellsOf 3)) = xs[1]? := hall 1 _ rfl
  rw [List.getElem?_eq_getElem (by omega)] at f1
  obtain ⟨a1, c1, o1⟩ := rp_int _ _ _ f1
  replace c1 : CellsR w ((fun n : Int => [AV.int n]) a1) ((cs.drop 1).take 1) := by
    have e1 : prog.cellsOf 3 = 1 := by kernel_rfl
    have c := c1
    simp only [e1] at c
    exact c
  have f2 : DataW.trod enc prog w 0 (fun _ => true) true n 9 ((cs.drop 2).take (prog.cellsOf 9)) = xs[2]? := hall 2 _ rfl
  rw [List.getElem?_eq_getElem (by omega)] at f2
  obtain ⟨a2, c2, o2⟩ := rp_str _ _ _ f2
  replace c2 : CellsR w ((fun s : ByteArray => [AV.str s]) a2) ((cs.drop 2).take 1) := by
    have e2 : prog.cellsOf 9 = 1 := by kernel_rfl
    have c := c2
    simp only [e2] at c
    exact c
  have hc := (fs_cons c0 (fs_cons c1 (fs_cons c2 (fs_end (by omega)))))
  rw [List.drop_zero] at hc
  refine ⟨⟨a0, a1, a2⟩, ?_, ⟨o0, o1, o2⟩⟩
  simpa only [AV.cells, encVal, List.append_assoc, List.cons_append, List.nil_append, List.append_nil] using hc

theorem rp_Ref : Reads enc prog w 263 (fun x : Ref => (encRef x).cells) (fun a : Ref => wfRef a) := by
  intro fuel cs x h
  obtain ⟨xs, n, _, _, hlen, hxl, hall⟩ := DataW.trod_struct underlying263 h
  rw [show prog.cellsOf 263 = 3 from by kernel_rfl] at hlen
  have hx : xs.length = 2 := hxl
  have f0 : DataW.trod enc prog w 0 (fun _ => true) true n 33 ((cs.drop 0).take (prog.cellsOf 33)) = xs[0]? := hall 0 _ rfl
  rw [List.getElem?_eq_getElem (by omega)] at f0
  obtain ⟨a0, c0, o0⟩ := rp_Dot _ _ _ f0
  replace c0 : CellsR w ((fun x : Dot => (encDot x).cells) a0) ((cs.drop 0).take 2) := by
    have e0 : prog.cellsOf 33 = 2 := by kernel_rfl
    have c := c0
    simp only [e0] at c
    exact c
  have f1 : DataW.trod enc prog w 0 (fun _ => true) true n 3 ((cs.drop 2).take (prog.cellsOf 3)) = xs[1]? := hall 1 _ rfl
  rw [List.getElem?_eq_getElem (by omega)] at f1
  obtain ⟨a1, c1, o1⟩ := rp_int _ _ _ f1
  replace c1 : CellsR w ((fun n : Int => [AV.int n]) a1) ((cs.drop 2).take 1) := by
    have e1 : prog.cellsOf 3 = 1 := by kernel_rfl
    have c := c1
    simp only [e1] at c
    exact c
  have hc := (fs_cons c0 (fs_cons c1 (fs_end (by omega))))
  rw [List.drop_zero] at hc
  refine ⟨⟨a0, a1⟩, ?_, ⟨o0, o1⟩⟩
  simpa only [AV.cells, encRef, encDot, List.append_assoc, List.cons_append, List.nil_append, List.append_nil] using hc

theorem rp_LRef : Reads enc prog w 125 (fun l : List Ref => [(encL 3 encRef) l]) (fun a : List Ref => (a.length ≤ 9223372036854775807 ∧ ∀ y ∈ a, wfRef y)) := rd_slice 3 (by decide) encRef (.inl fun _ => rfl) underlying125 (by kernel_rfl) rp_Ref

theorem rp_Opn : Reads enc prog w 127 (fun x : Opn => (encOpn x).cells) (fun a : Opn => wfOpn a) := by
  intro fuel cs x h
  obtain ⟨xs, n, _, _, hlen, hxl, hall⟩ := DataW.trod_struct underlying127 h
  rw [show prog.cellsOf 127 = 7 from by kernel_rfl] at hlen
  have hx : xs.length = 5 := hxl
  have f0 : DataW.trod enc prog w 0 (fun _ => true) true n 3 ((cs.drop 0).take (prog.cellsOf 3)) = xs[0]? := hall 0 _ rfl
  rw [List.getElem?_eq_getElem (by omega)] at f0
  obtain ⟨a0, c0, o0⟩ := rp_int _ _ _ f0
  replace c0 : CellsR w ((fun n : Int => [AV.int n]) a0) ((cs.drop 0).take 1) := by
    have e0 : prog.cellsOf 3 = 1 := by kernel_rfl
    have c := c0
    simp only [e0] at c
    exact c
  have f1 : DataW.trod enc prog w 0 (fun _ => true) true n 122 ((cs.drop 1).take (prog.cellsOf 122)) = xs[1]? := hall 1 _ rfl
  rw [List.getElem?_eq_getElem (by omega)] at f1
  obtain ⟨a1, c1, o1⟩ := rp_Lstr _ _ _ f1
  replace c1 : CellsR w ((fun l : List ByteArray => [(encL 1 AV.str) l]) a1) ((cs.drop 1).take 1) := by
    have e1 : prog.cellsOf 122 = 1 := by kernel_rfl
    have c := c1
    simp only [e1] at c
    exact c
  have f2 : DataW.trod enc prog w 0 (fun _ => true) true n 124 ((cs.drop 2).take (prog.cellsOf 124)) = xs[2]? := hall 2 _ rfl
  rw [List.getElem?_eq_getElem (by omega)] at f2
  obtain ⟨a2, c2, o2⟩ := rp_Val _ _ _ f2
  replace c2 : CellsR w ((fun x : Val => (encVal x).cells) a2) ((cs.drop 2).take 3) := by
    have e2 : prog.cellsOf 124 = 3 := by kernel_rfl
    have c := c2
    simp only [e2] at c
    exact c
  have f3 : DataW.trod enc prog w 0 (fun _ => true) true n 3 ((cs.drop 5).take (prog.cellsOf 3)) = xs[3]? := hall 3 _ rfl
  rw [List.getElem?_eq_getElem (by omega)] at f3
  obtain ⟨a3, c3, o3⟩ := rp_int _ _ _ f3
  replace c3 : CellsR w ((fun n : Int => [AV.int n]) a3) ((cs.drop 5).take 1) := by
    have e3 : prog.cellsOf 3 = 1 := by kernel_rfl
    have c := c3
    simp only [e3] at c
    exact c
  have f4 : DataW.trod enc prog w 0 (fun _ => true) true n 125 ((cs.drop 6).take (prog.cellsOf 125)) = xs[4]? := hall 4 _ rfl
  rw [List.getElem?_eq_getElem (by omega)] at f4
  obtain ⟨a4, c4, o4⟩ := rp_LRef _ _ _ f4
  replace c4 : CellsR w ((fun l : List Ref => [(encL 3 encRef) l]) a4) ((cs.drop 6).take 1) := by
    have e4 : prog.cellsOf 125 = 1 := by kernel_rfl
    have c := c4
    simp only [e4] at c
    exact c
  have hc := (fs_cons c0 (fs_cons c1 (fs_cons c2 (fs_cons c3 (fs_cons c4 (fs_end (by omega)))))))
  rw [List.drop_zero] at hc
  refine ⟨⟨a0, a1, a2, a3, a4⟩, ?_, ⟨o0, o1, o2, o3, o4⟩⟩
  simpa only [AV.cells, encOpn, encVal, List.append_assoc, List.cons_append, List.nil_append, List.append_nil] using hc

theorem rp_LOpn : Reads enc prog w 59 (fun l : List Opn => [(encL 7 encOpn) l]) (fun a : List Opn => (a.length ≤ 9223372036854775807 ∧ ∀ y ∈ a, wfOpn y)) := rd_slice 7 (by decide) encOpn (.inl fun _ => rfl) underlying59 (by kernel_rfl) rp_Opn

theorem rp_Txn : Reads enc prog w 61 (fun x : Txn => (encTxn x).cells) (fun a : Txn => wfTxn a) := by
  intro fuel cs x h
  obtain ⟨xs, n, _, _, hlen, hxl, hall⟩ := DataW.trod_struct underlying61 h
  rw [show prog.cellsOf 61 = 6 from by kernel_rfl] at hlen
  have hx : xs.length = 5 := hxl
  have f0 : DataW.trod enc prog w 0 (fun _ => true) true n 33 ((cs.drop 0).take (prog.cellsOf 33)) = xs[0]? := hall 0 _ rfl
  rw [List.getElem?_eq_getElem (by omega)] at f0
  obtain ⟨a0, c0, o0⟩ := rp_Dot _ _ _ f0
  replace c0 : CellsR w ((fun x : Dot => (encDot x).cells) a0) ((cs.drop 0).take 2) := by
    have e0 : prog.cellsOf 33 = 2 := by kernel_rfl
    have c := c0
    simp only [e0] at c
    exact c
  have f1 : DataW.trod enc prog w 0 (fun _ => true) true n 3 ((cs.drop 2).take (prog.cellsOf 3)) = xs[1]? := hall 1 _ rfl
  rw [List.getElem?_eq_getElem (by omega)] at f1
  obtain ⟨a1, c1, o1⟩ := rp_int _ _ _ f1
  replace c1 : CellsR w ((fun n : Int => [AV.int n]) a1) ((cs.drop 2).take 1) := by
    have e1 : prog.cellsOf 3 = 1 := by kernel_rfl
    have c := c1
    simp only [e1] at c
    exact c
  have f2 : DataW.trod enc prog w 0 (fun _ => true) true n 3 ((cs.drop 3).take (prog.cellsOf 3)) = xs[2]? := hall 2 _ rfl
  rw [List.getElem?_eq_getElem (by omega)] at f2
  obtain ⟨a2, c2, o2⟩ := rp_int _ _ _ f2
  replace c2 : CellsR w ((fun n : Int => [AV.int n]) a2) ((cs.drop 3).take 1) := by
    have e2 : prog.cellsOf 3 = 1 := by kernel_rfl
    have c := c2
    simp only [e2] at c
    exact c
  have f3 : DataW.trod enc prog w 0 (fun _ => true) true n 4 ((cs.drop 4).take (prog.cellsOf 4)) = xs[3]? := hall 3 _ rfl
  rw [List.getElem?_eq_getElem (by omega)] at f3
  obtain ⟨a3, c3, o3⟩ := rp_bool _ _ _ f3
  replace c3 : CellsR w ((fun b : Bool => [AV.bool b]) a3) ((cs.drop 4).take 1) := by
    have e3 : prog.cellsOf 4 = 1 := by kernel_rfl
    have c := c3
    simp only [e3] at c
    exact c
  have f4 : DataW.trod enc prog w 0 (fun _ => true) true n 59 ((cs.drop 5).take (prog.cellsOf 59)) = xs[4]? := hall 4 _ rfl
  rw [List.getElem?_eq_getElem (by omega)] at f4
  obtain ⟨a4, c4, o4⟩ := rp_LOpn _ _ _ f4
  replace c4 : CellsR w ((fun l : List Opn => [(encL 7 encOpn) l]) a4) ((cs.drop 5).take 1) := by
    have e4 : prog.cellsOf 59 = 1 := by kernel_rfl
    have c := c4
    simp only [e4] at c
    exact c
  have hc := (fs_cons c0 (fs_cons c1 (fs_cons c2 (fs_cons c3 (fs_cons c4 (fs_end (by omega)))))))
  rw [List.drop_zero] at hc
  refine ⟨⟨a0, a1, a2, a3, a4⟩, ?_, ⟨o0, o1, o2, o3, o4⟩⟩
  simpa only [AV.cells, encTxn, encDot, List.append_assoc, List.cons_append, List.nil_append, List.append_nil] using hc

theorem rp_LTxn : Reads enc prog w 22 (fun l : List Txn => [(encL 6 encTxn) l]) (fun a : List Txn => (a.length ≤ 9223372036854775807 ∧ ∀ y ∈ a, wfTxn y)) := rd_slice 6 (by decide) encTxn (.inl fun _ => rfl) underlying22 (by kernel_rfl) rp_Txn

theorem rp_Undo : Reads enc prog w 74 (fun x : Undo => (encUndo x).cells) (fun a : Undo => wfUndo a) := by
  intro fuel cs x h
  obtain ⟨xs, n, _, _, hlen, hxl, hall⟩ := DataW.trod_struct underlying74 h
  rw [show prog.cellsOf 74 = 3 from by kernel_rfl] at hlen
  have hx : xs.length = 2 := hxl
  have f0 : DataW.trod enc prog w 0 (fun _ => true) true n 33 ((cs.drop 0).take (prog.cellsOf 33)) = xs[0]? := hall 0 _ rfl
  rw [List.getElem?_eq_getElem (by omega)] at f0
  obtain ⟨a0, c0, o0⟩ := rp_Dot _ _ _ f0
  replace c0 : CellsR w ((fun x : Dot => (encDot x).cells) a0) ((cs.drop 0).take 2) := by
    have e0 : prog.cellsOf 33 = 2 := by kernel_rfl
    have c := c0
    simp only [e0] at c
    exact c
  have f1 : DataW.trod enc prog w 0 (fun _ => true) true n 3 ((cs.drop 2).take (prog.cellsOf 3)) = xs[1]? := hall 1 _ rfl
  rw [List.getElem?_eq_getElem (by omega)] at f1
  obtain ⟨a1, c1, o1⟩ := rp_int _ _ _ f1
  replace c1 : CellsR w ((fun n : Int => [AV.int n]) a1) ((cs.drop 2).take 1) := by
    have e1 : prog.cellsOf 3 = 1 := by kernel_rfl
    have c := c1
    simp only [e1] at c
    exact c
  have hc := (fs_cons c0 (fs_cons c1 (fs_end (by omega))))
  rw [List.drop_zero] at hc
  refine ⟨⟨a0, a1⟩, ?_, ⟨o0, o1⟩⟩
  simpa only [AV.cells, encUndo, encDot, List.append_assoc, List.cons_append, List.nil_append, List.append_nil] using hc

theorem rp_LUndo : Reads enc prog w 23 (fun l : List Undo => [(encL 3 encUndo) l]) (fun a : List Undo => (a.length ≤ 9223372036854775807 ∧ ∀ y ∈ a, wfUndo y)) := rd_slice 3 (by decide) encUndo (.inl fun _ => rfl) underlying23 (by kernel_rfl) rp_Undo

theorem rp_Vec : Reads enc prog w 25 (fun v : Vec => v.l.map AV.int) (fun a : Vec => (∀ y ∈ a.l, iok y)) := fun fuel cs x h =>
  let ⟨l, h1, h2, h3⟩ := rd_array (f := AV.int) (ok := iok) 16 underlying25 (by kernel_rfl) (by kernel_rfl) rp_int fuel cs x h
  ⟨⟨l, h2⟩, h1, h3⟩

theorem rp_LDot : Reads enc prog w 26 (fun l : List Dot => [(encL 2 encDot) l]) (fun a : List Dot => (a.length ≤ 9223372036854775807 ∧ ∀ y ∈ a, wfDot y)) := rd_slice 2 (by decide) encDot (.inl fun _ => rfl) underlying26 (by kernel_rfl) rp_Dot

theorem rp_Dots : Reads enc prog w 28 (fun x : Dots => (encDots x).cells) (fun a : Dots => wfDots a) := by
  intro fuel cs x h
  obtain ⟨xs, n, _, _, hlen, hxl, hall⟩ := DataW.trod_struct underlying28 h
  rw [show prog.cellsOf 28 = 17 from by kernel_rfl] at hlen
  have hx : xs.length = 2 := hxl
  have f0 : DataW.trod enc prog w 0 (fun _ => true) true n 25 ((cs.drop 0).take (prog.cellsOf 25)) = xs[0]? := hall 0 _ rfl
  rw [List.getElem?_eq_getElem (by omega)] at f0
  obtain ⟨a0, c0, o0⟩ := rp_Vec _ _ _ f0
  replace c0 : CellsR w ((fun v : Vec => v.l.map AV.int) a0) ((cs.drop 0).take 16) := by
    have e0 : prog.cellsOf 25 = 16 := by kernel_rfl
    have c := c0
    simp only [e0] at c
    exact c
  have f1 : DataW.trod enc prog w 0 (fun _ => true) true n 26 ((cs.drop 16).take (prog.cellsOf 26)) = xs[1]? := hall 1 _ rfl
  rw [List.getElem?_eq_getElem (by omega)] at f1
  obtain ⟨a1, c1, o1⟩ := rp_LDot _ _ _ f1
  replace c1 : CellsR w ((fun l : List Dot => [(encL 2 encDot) l]) a1) ((cs.drop 16).take 1) := by
    have e1 : prog.cellsOf 26 = 1 := by kernel_rfl
    have c := c1
    simp only [e1] at c
    exact c
  have hc := (fs_cons c0 (fs_cons c1 (fs_end (by omega))))
  rw [List.drop_zero] at hc
  refine ⟨⟨a0, a1⟩, ?_, ⟨o0, o1⟩⟩
  simpa only [AV.cells, encDots, List.append_assoc, List.cons_append, List.nil_append, List.append_nil] using hc

theorem rp_Redo : Reads enc prog w 29 (fun v : Redo => v.l.map (encL 2 encDot)) (fun a : Redo => (∀ z ∈ a.l, (z.length ≤ 9223372036854775807 ∧ ∀ y ∈ z, wfDot y))) := fun fuel cs x h =>
  let ⟨l, h1, h2, h3⟩ := rd_array (f := encL 2 encDot) (ok := fun z : List Dot => (z.length ≤ 9223372036854775807 ∧ ∀ y ∈ z, wfDot y)) 8 underlying29 (by kernel_rfl) (by kernel_rfl) rp_LDot fuel cs x h
  ⟨⟨l, h2⟩, h1, h3⟩

theorem rp_State : Reads enc prog w 31 (fun x : State => (encState x).cells) (fun a : State => wfState a) := by
  intro fuel cs x h
  obtain ⟨xs, n, _, _, hlen, hxl, hall⟩ := DataW.trod_struct underlying31 h
  rw [show prog.cellsOf 31 = 44 from by kernel_rfl] at hlen
  have hx : xs.length = 5 := hxl
  have f0 : DataW.trod enc prog w 0 (fun _ => true) true n 22 ((cs.drop 0).take (prog.cellsOf 22)) = xs[0]? := hall 0 _ rfl
  rw [List.getElem?_eq_getElem (by omega)] at f0
  obtain ⟨a0, c0, o0⟩ := rp_LTxn _ _ _ f0
  replace c0 : CellsR w ((fun l : List Txn => [(encL 6 encTxn) l]) a0) ((cs.drop 0).take 1) := by
    have e0 : prog.cellsOf 22 = 1 := by kernel_rfl
    have c := c0
    simp only [e0] at c
    exact c
  have f1 : DataW.trod enc prog w 0 (fun _ => true) true n 23 ((cs.drop 1).take (prog.cellsOf 23)) = xs[1]? := hall 1 _ rfl
  rw [List.getElem?_eq_getElem (by omega)] at f1
  obtain ⟨a1, c1, o1⟩ := rp_LUndo _ _ _ f1
  replace c1 : CellsR w ((fun l : List Undo => [(encL 3 encUndo) l]) a1) ((cs.drop 1).take 1) := by
    have e1 : prog.cellsOf 23 = 1 := by kernel_rfl
    have c := c1
    simp only [e1] at c
    exact c
  have f2 : DataW.trod enc prog w 0 (fun _ => true) true n 28 ((cs.drop 2).take (prog.cellsOf 28)) = xs[2]? := hall 2 _ rfl
  rw [List.getElem?_eq_getElem (by omega)] at f2
  obtain ⟨a2, c2, o2⟩ := rp_Dots _ _ _ f2
  replace c2 : CellsR w ((fun x : Dots => (encDots x).cells) a2) ((cs.drop 2).take 17) := by
    have e2 : prog.cellsOf 28 = 17 := by kernel_rfl
    have c := c2
    simp only [e2] at c
    exact c
  have f3 : DataW.trod enc prog w 0 (fun _ => true) true n 28 ((cs.drop 19).take (prog.cellsOf 28)) = xs[3]? := hall 3 _ rfl
  rw [List.getElem?_eq_getElem (by omega)] at f3
  obtain ⟨a3, c3, o3⟩ := rp_Dots _ _ _ f3
  replace c3 : CellsR w ((fun x : Dots => (encDots x).cells) a3) ((cs.drop 19).take 17) := by
    have e3 : prog.cellsOf 28 = 17 := by kernel_rfl
    have c := c3
    simp only [e3] at c
    exact c
  have f4 : DataW.trod enc prog w 0 (fun _ => true) true n 29 ((cs.drop 36).take (prog.cellsOf 29)) = xs[4]? := hall 4 _ rfl
  rw [List.getElem?_eq_getElem (by omega)] at f4
  obtain ⟨a4, c4, o4⟩ := rp_Redo _ _ _ f4
  replace c4 : CellsR w ((fun v : Redo => v.l.map (encL 2 encDot)) a4) ((cs.drop 36).take 8) := by
    have e4 : prog.cellsOf 29 = 8 := by kernel_rfl
    have c := c4
    simp only [e4] at c
    exact c
  have hc := (fs_cons c0 (fs_cons c1 (fs_cons c2 (fs_cons c3 (fs_cons c4 (fs_end (by omega)))))))
  rw [List.drop_zero] at hc
  refine ⟨⟨a0, a1, a2, a3, a4⟩, ?_, ⟨o0, o1, o2, o3, o4⟩⟩
  simpa only [AV.cells, encState, encDots, encDots, List.append_assoc, List.cons_append, List.nil_append, List.append_nil] using hc

theorem rp_Row : Reads enc prog w 35 (fun x : Row => (encRow x).cells) (fun a : Row => wfRow a) := by
  intro fuel cs x h
  obtain ⟨xs, n, _, _, hlen, hxl, hall⟩ := DataW.trod_struct underlying35 h
  rw [show prog.cellsOf 35 = 8 from by kernel_rfl] at hlen
  have hx : xs.length = 7 := hxl
  have f0 : DataW.trod enc prog w 0 (fun _ => true) true n 33 ((cs.drop 0).take (prog.cellsOf 33)) = xs[0]? := hall 0 _ rfl
  rw [List.getElem?_eq_getElem (by omega)] at f0
  obtain ⟨a0, c0, o0⟩ := rp_Dot _ _ _ f0
  replace c0 : CellsR w ((fun x : Dot => (encDot x).cells) a0) ((cs.drop 0).take 2) := by
    have e0 : prog.cellsOf 33 = 2 := by kernel_rfl
    have c := c0
    simp only [e0] at c
    exact c
  have f1 : DataW.trod enc prog w 0 (fun _ => true) true n 3 ((cs.drop 2).take (prog.cellsOf 3)) = xs[1]? := hall 1 _ rfl
  rw [List.getElem?_eq_getElem (by omega)] at f1
  obtain ⟨a1, c1, o1⟩ := rp_int _ _ _ f1
  replace c1 : CellsR w ((fun n : Int => [AV.int n]) a1) ((cs.drop 2).take 1) := by
    have e1 : prog.cellsOf 3 = 1 := by kernel_rfl
    have c := c1
    simp only [e1] at c
    exact c
  have f2 : DataW.trod enc prog w 0 (fun _ => true) true n 3 ((cs.drop 3).take (prog.cellsOf 3)) = xs[2]? := hall 2 _ rfl
  rw [List.getElem?_eq_getElem (by omega)] at f2
  obtain ⟨a2, c2, o2⟩ := rp_int _ _ _ f2
  replace c2 : CellsR w ((fun n : Int => [AV.int n]) a2) ((cs.drop 3).take 1) := by
    have e2 : prog.cellsOf 3 = 1 := by kernel_rfl
    have c := c2
    simp only [e2] at c
    exact c
  have f3 : DataW.trod enc prog w 0 (fun _ => true) true n 3 ((cs.drop 4).take (prog.cellsOf 3)) = xs[3]? := hall 3 _ rfl
  rw [List.getElem?_eq_getElem (by omega)] at f3
  obtain ⟨a3, c3, o3⟩ := rp_int _ _ _ f3
  replace c3 : CellsR w ((fun n : Int => [AV.int n]) a3) ((cs.drop 4).take 1) := by
    have e3 : prog.cellsOf 3 = 1 := by kernel_rfl
    have c := c3
    simp only [e3] at c
    exact c
  have f4 : DataW.trod enc prog w 0 (fun _ => true) true n 3 ((cs.drop 5).take (prog.cellsOf 3)) = xs[4]? := hall 4 _ rfl
  rw [List.getElem?_eq_getElem (by omega)] at f4
  obtain ⟨a4, c4, o4⟩ := rp_int _ _ _ f4
  replace c4 : CellsR w ((fun n : Int => [AV.int n]) a4) ((cs.drop 5).take 1) := by
    have e4 : prog.cellsOf 3 = 1 := by kernel_rfl
    have c := c4
    simp only [e4] at c
    exact c
  have f5 : DataW.trod enc prog w 0 (fun _ => true) true n 4 ((cs.drop 6).take (prog.cellsOf 4)) = xs[5]? := hall 5 _ rfl
  rw [List.getElem?_eq_getElem (by omega)] at f5
  obtain ⟨a5, c5, o5⟩ := rp_bool _ _ _ f5
  replace c5 : CellsR w ((fun b : Bool => [AV.bool b]) a5) ((cs.drop 6).take 1) := by
    have e5 : prog.cellsOf 4 = 1 := by kernel_rfl
    have c := c5
    simp only [e5] at c
    exact c
  have f6 : DataW.trod enc prog w 0 (fun _ => true) true n 4 ((cs.drop 7).take (prog.cellsOf 4)) = xs[6]? := hall 6 _ rfl
  rw [List.getElem?_eq_getElem (by omega)] at f6
  obtain ⟨a6, c6, o6⟩ := rp_bool _ _ _ f6
  replace c6 : CellsR w ((fun b : Bool => [AV.bool b]) a6) ((cs.drop 7).take 1) := by
    have e6 : prog.cellsOf 4 = 1 := by kernel_rfl
    have c := c6
    simp only [e6] at c
    exact c
  have hc := (fs_cons c0 (fs_cons c1 (fs_cons c2 (fs_cons c3 (fs_cons c4 (fs_cons c5 (fs_cons c6 (fs_end (by omega)))))))))
  rw [List.drop_zero] at hc
  refine ⟨⟨a0, a1, a2, a3, a4, a5, a6⟩, ?_, ⟨o0, o1, o2, o3, o4, o5, o6⟩⟩
  simpa only [AV.cells, encRow, encDot, List.append_assoc, List.cons_append, List.nil_append, List.append_nil] using hc
end
end Go.Av

namespace Go.Av
open Go.ChangeShapes Go.WideShapes Go.ChangeAt Go.RowKit Go.Proofs.Tryz Go.Proofs.YtjnenmbfojkoeaaGreatDoor
set_option linter.unusedVariables false

section
variable {H : Type} {enc : TypeId × Value → H} {P : Program}
theorem post_below {f : Func} {s : ChangeSpec} {apart fresh handsOn again : Bool} {W W' : World} {args : Array Value} {v : Value} {ds gs : List (DataW H)} {before pa pv : List MemPlace}
    (hW : DataW.Whole enc P f.params.toList s.vars apart W args.toList ds gs before)
    (hres : ∀ (b : Nat) (sp : Nat → Bool) (hd : Bool), DataW.TrodAll enc P W' b sp hd f.resultTypes.toList (v.resultList f.resultTypes.size) (s.fn H (ds ++ gs)).results [])
    (hargs : ∀ (sp : Nat → Bool), (∀ p ∈ before, sp p.block = true) → DataW.TrodAll enc P W' 0 sp true f.params.toList args.toList (s.fn H (ds ++ gs)).args pa)
    (hvars : ∀ sp : Nat → Bool, (∀ p ∈ before, sp p.block = true) → DataW.TrodVars enc P W' sp s.vars (s.fn H (ds ++ gs)).vars pv)
    (hps : before = pa ++ pv) (hb : Below W.heap.size W W')
    (hok : ∀ (j : Nat) (t : TypeId) (r : Value), f.resultTypes[j]? = some t → (v.resultList f.resultTypes.size)[j]? = some r → Value.okWide P W' .any 0 t r) :
    s.post enc P f apart fresh handsOn again W args v W' := by
  have hlt : ∀ p ∈ before, p.block < W.heap.size := fun p hp => hW.lt p hp
  have hold : ∀ p ∈ before, (fun b => decide (b < W.heap.size)) p.block = true := fun p hp => by simpa using hlt p hp
  refine ⟨ds, gs, before, [], pa, pv, hW, hres _ _ _, hargs _ hold, hvars _ hold, World.keptBut_mono (fun p hp => ⟨hp, ?_⟩) (hb.frame (· ∈ before)), fun _ => ?_⟩
  · rw [hps, List.mem_append] at hp
    exact Or.inr hp
  · obtain ⟨_, _, _, _, _, hz, hn⟩ := hW
    refine ⟨hok, _, _, ([] ++ pa) ++ pv, ⟨[] ++ pa, pv, trodAll_append (hargs _ (fun _ _ => rfl)) (hres _ _ _), hvars _ (fun _ _ => rfl), rfl, ?_, ?_⟩, ?_⟩
    · intro b off hp
      have hin : MemPlace.cell b off ∈ before := by rw [hps]; simpa using hp
      rw [hb.frozen (hlt _ hin)]
      exact hz b off hin
    · intro ha
      have := hn ha
      rw [hps] at this
      simpa using this
    · intro p hp _
      rw [hps]
      simpa using hp
end

section
variable {H : Type} {enc : TypeId × Value → H} {W W' : World}

theorem agg_of_cells {v : Value} (h : v.cells.size ≠ 1) : v = .agg v.cells := by
  cases v <;> first | rfl | (simp [Value.cells] at h)

/-- A struct that can be read, as an abstract value. -/
theorem rv_struct {P : Program} {t : TypeId} {v : Value} {d : DataW H} {p : List MemPlace} {α : Type} {f : α → List AV} {ok : α → Prop} (hr : Reads enc P W t f ok)
    (h : DataW.Trod enc P W 0 (fun _ => true) true t v d p) (hlen : ∀ a, (f a).length ≠ 1) : ∃ a, RV (old W) (fun _ => none) W (.agg (f a)) v ∧ ok a := by
  obtain ⟨fuel, h⟩ := h
  obtain ⟨a, hc, hok⟩ := hr fuel _ _ h
  refine ⟨a, ?_, hok⟩
  have hv := RV.agg_of hc
  have hsz : v.cells.size ≠ 1 := by
    have := hc.1.1
    rw [Array.length_toList] at this
    rw [this]; exact hlen a
  rw [agg_of_cells hsz]
  simpa using hv

/-- A contract over the table, at the call's beginning. -/
theorem calls_top {P : Program} {f : FuncId} {aas : List AV} {x : Value} (ef : ∀ xs w, (callFunc f xs).run P w = .ok (.enter f xs) w) {g : Nat} {cs : List Value} {e : TypeId} {fr : Nat × Nat} (hg : W.heap[g]? = some (.cells cs.toArray e fr))
    (h : ∀ σ : Heap, σ 0 = some (.glob g cs) → PureAt P f aas σ (.sc x)) {vs : List Value} (hv : RVs (old W) (fun _ => none) W aas vs) :
    Calls P f vs.toArray W fun e w' => e = .returned x ∧ Below W.heap.size W w' := by
  have hglt : g < W.heap.size := (Array.getElem?_eq_some_iff.1 hg).1
  have hinv : Inv (old W) (fun _ => False) (fun _ => none) (upd (fun _ => none) 0 (some (.glob g cs))) W := by
    refine ⟨fun b o hb => ?_, fun b b' sp sp' _ _ h1 => (by cases h1), fun b sp _ h1 => (by cases h1), fun k hk => hk.elim, fun k hk => hk, fun k hk => hk.elim, 1, fun b hb => ⟨rfl, by rw [upd_ne _ _ (by omega)]⟩⟩
    by_cases hb0 : b = 0
    · subst hb0
      rw [upd_same] at hb
      cases hb
      exact ⟨rfl, hglt, e, fr, hg⟩
    · rw [upd_ne _ _ hb0] at hb; cases hb
  have := h _ (upd_same _ _ _) _ _ _ W vs hv hinv
  unfold CallSem at this
  rw [ef] at this
  refine this.mono ?_
  rintro en w' ⟨v', rfl, r, σ', F', μ', ⟨rfl, rfl⟩, hrv, hinv', hext⟩
  obtain rfl := sc_inv hrv
  exact ⟨rfl, hext.os, hext.tape, hext.output, hext.size, fun k hk => hext.keep k (.inl hk)⟩

theorem RVs_two {F : Nat → Prop} {μ : Nat → Option Spot} {a b : AV} {u v : Value} (h : RV F μ W a u) (k : RV F μ W b v) : RVs F μ W [a, b] [u, v] :=
  ⟨rfl, fun i hi hj => match i, hi, hj with
    | 0, _, _ => h
    | 1, _, _ => k⟩

theorem okState_of {s : State} (h : wfState s) : okState s ∧ intState s := by
  obtain ⟨⟨h1, h2⟩, ⟨h3, h4⟩, ⟨_, h5, _⟩, ⟨_, h6, _⟩, h7⟩ := h
  refine ⟨⟨h1, fun t ht => ⟨(h2 t ht).2.2.2.2.1, fun o ho => ?_⟩, h3, h5, h6, fun u => ?_⟩, fun t ht => ⟨(h2 t ht).1.1, (h2 t ht).1.2, (h2 t ht).2.1, (h2 t ht).2.2.1⟩, fun u hu => (h4 u hu).2⟩
  · have := (h2 t ht).2.2.2.2.2 o ho
    exact ⟨this.2.1.1, this.2.1.2, this.2.2.1.2.2, this.2.2.2.2.1⟩
  · unfold Redo.at
    rw [List.getD_eq_getElem?_getD]
    cases hu : s.Redo.l[u]? with
    | none => simp
    | some z => exact (h7 z (List.mem_of_getElem? hu)).1
end

theorem laid_pow {W : World} (h : laidMetH prog Rows.historyTellsRow.laid W) : ∃ e fr, W.heap[0]? = some (.cells pow10V.toArray e fr) := by
  rw [MakeChecks.laidMetH_plain _ _ _ (by kernel_rfl)] at h
  obtain ⟨ps, ⟨_, _, _, _, _, _, _, _, _, _, ⟨_, _, _, _, _, _, _, _, _, _, ⟨g, t, cs, fuel, p, q, hg, ht, hv, hd, _, _⟩, _⟩, _⟩, _, _⟩ := h
  obtain rfl := Option.some.inj (pow_g.symm.trans hg)
  obtain rfl := Option.some.inj ((show (prog.globals[0]?).map (·.type) = some 319 by kernel_rfl).symm.trans ht)
  have hcs : cs.toList = pow10V := Go.Lib.cells_of_tab underlying319 underlying297 (by kernel_rfl) (by kernel_rfl) hd
  simp only [World.var?, hg, Option.bind_some] at hv
  split at hv
  · rename_i cs' e fr hb
    cases hv
    refine ⟨e, fr, hb.trans ?_⟩
    rw [← hcs]
  · cases hv

theorem own : ownKnob prog.godebug = none := by kernel_rfl
theorem laidOut : laidOutB prog = true := by kernel_rfl

def zeroStateV : Value := .agg (([Value.slice none 0 0, .slice none 0 0] ++ List.replicate 16 (Value.int .i64 0) ++ [Value.slice none 0 0] ++ List.replicate 16 (Value.int .i64 0) ++ [Value.slice none 0 0] ++ List.replicate 8 (Value.slice none 0 0)).toArray)
def zeroRowV : Value := .agg #[.int .i64 0, .int .i64 0, .int .i64 0, .int .i64 0, .int .i64 0, .int .i64 0, .bool false, .bool false]

set_option maxRecDepth 100000 in
theorem historyTells_lifted (os : Os) (started : os.Started) (H : Type) (enc : TypeId × Value → H) :
    ReturnsInHanded {} checked os 3 .any (fun w args => (Rows.historyTellsSpec.pre enc prog f3 Rows.historyTellsRow.domain false w args ∧ laidMetH prog Rows.historyTellsRow.laid w) ∧ sizedMet enc prog f3 (OpenSpec.ofChange Rows.historyTellsSpec) false w args)
      (Rows.historyTellsSpec.post enc prog f3 Rows.historyTellsRow.apart Rows.historyTellsRow.fresh Rows.historyTellsRow.handsOn Rows.historyTellsRow.again) := by
  refine returnsInHanded_of_change_and (C := checked) (X := fun w _ => laidMetH prog Rows.historyTellsRow.laid w) (fun _ _ _ hh h => h.of_heap hh) own started (by kernel_rfl) func3
    (ChangeSpec.witness_shaped (enc := enc) (C := checked) (os := os) (X := fun w _ => laidMetH prog Rows.historyTellsRow.laid w) false (World.laidAll prog os Rows.historyTellsRow.laid) #[zeroStateV, zeroRowV] 20 (World.laidAll_os _ _ _)
      (World.shaped_of_ZipB (by kernel_rfl) (by kernel_rfl)) (by kernel_rfl) (by kernel_rfl) (by kernel_rfl)
      (by rw [MakeChecks.laidMetH_plain _ _ _ (by kernel_rfl)]; exact laidMet_laidAll _ (by kernel_rfl) (by kernel_rfl))) ?_
  intro W base args ds gs before hval0 hW hc _ hL _
  have hW' := hW
  obtain ⟨p, q, hA0, hV, rfl, _, _⟩ := hW
  have hA : DataW.TrodAll enc prog W 0 (fun _ => true) true f3.params.toList args.toList ds p := hA0
  rw [params3] at hA
  obtain ⟨v0, v1, d0, d1, p0, p1, rfl, rfl, rfl, h0, h1⟩ := trodAll_two hA
  obtain ⟨rfl, rfl⟩ := trodVars_none hV
  obtain ⟨e, fr, hg⟩ := laid_pow hL
  obtain ⟨s, hs, ws⟩ := rv_struct (rp_State (enc := enc) (w := W)) h0 (fun a => by simp [encState, AV.cells])
  obtain ⟨r, hr, wr⟩ := rv_struct (rp_Row (enc := enc) (w := W)) h1 (fun a => by simp [encRow, AV.cells])
  have hok := okState_of ws
  have fin := calls_top (P := prog) (f := 3) (aas := [encState s, encRow r]) (x := .bool true) (Go.Proofs.enters_of func3 (by kernel_rfl) rfl) hg
    (fun σ h => k_HistoryTells h s hok.1 hok.2 r ⟨wr.1.1, wr.1.2, wr.2.1, wr.2.2.1, wr.2.2.2.1, wr.2.2.2.2.1⟩) (RVs_two hs hr)
  have hlt : ∀ x ∈ p0 ++ p1, x.block < W.heap.size := fun x hx => hW'.lt x (by simpa using hx)
  simp only [List.append_nil] at hW'
  refine fin.mono fun e W' ⟨he, hb⟩ => ?_
  subst he
  refine ⟨_, rfl, post_below (pa := p0 ++ p1) (pv := []) hW' (fun _ _ _ => trodAll_mk1 (shut_bool underlying4 _)) ?_ (fun _ _ => rfl) (by simp) hb (ok_one (by kernel_rfl) rfl (okWide_bool_mk underlying4 _))⟩
  intro sp hsp
  have k0 := WideElems.Trod_stays (sp' := sp) laidOut (by kernel_rfl) (of_decide_eq_true (by kernel_rfl)) h0 (fun x hx => hb.same (hlt x (by simp [hx]))) (fun x hx => hsp x (by simp [hx]))
  have k1 := WideElems.Trod_stays (sp' := sp) laidOut (by kernel_rfl) (of_decide_eq_true (by kernel_rfl)) h1 (fun x hx => hb.same (hlt x (by simp [hx]))) (fun x hx => hsp x (by simp [hx]))
  exact trodAll_mk2 k0 k1

end Go.Av

namespace Go.Av
open Go.Proofs.Tryz
set_option maxRecDepth 100000
set_option linter.unusedSimpArgs false
set_option linter.unusedVariables false

/- history.Of$1 -/
def c91 : ICode :=
  .seq (.region 2 [⟨(some 2), .bbox 0 (.t 0), none⟩,
    ⟨(some 3), .mov (.c (.bool false)), none⟩]) <|
  .seq (.region 5 [⟨(some 4), .faddr (some 2) 2 (.b 2), none⟩,
    ⟨(some 5), .load (some 2) 1 false (.t 4), none⟩,
    ⟨(some 6), .load none 1 false (.t 1), none⟩,
    ⟨(some 7), .bin .eql (.t 5) (.t 6), none⟩,
    ⟨(some 3), .mov (.t 7), none⟩]) <|
  .ret
def ir91 : IFn := ⟨8, [2], 2, [.tmp 3], c91⟩
theorem ok91 : compFn prog [2] [] f91 = some ir91 := by kernel_rfl
theorem wp91 {a0 a1 : AV} {r : AV} (H : ∀ σ, WpI prog c91 (retQ [.tmp 3] fun v s => v = r ∧ s = σ) (argE [a0, a1]) 0 σ) : Pure prog 91 [a0, a1] r := @pure_of_wp prog hm 91 f91 [2] [] ir91 [a0, a1] r func91 ok91 (Nat.le_of_ble_eq_true rfl) H
theorem wa91 {a0 a1 : AV} {σ : Heap} {R : AV → Heap → Prop} (H : WpI prog c91 (retQ [.tmp 3] R) (argE [a0, a1]) 0 σ) : CallsA prog 91 [a0, a1] σ R := @callsA_of_wp prog [2] hm 91 f91 [] ir91 [a0, a1] σ R func91 ok91 (Nat.le_of_ble_eq_true rfl) H
/- history.Between$1 -/
def c92 : ICode :=
  .seq (.region 2 [⟨(some 3), .bbox 0 (.t 0), none⟩,
    ⟨(some 4), .mov (.c (.bool false)), none⟩]) <|
  .seq (.region 11 [⟨(some 5), .faddr (some 3) 3 (.b 3), none⟩,
    ⟨(some 6), .load (some 3) 1 false (.t 5), none⟩,
    ⟨(some 7), .load none 1 false (.t 1), none⟩,
    ⟨(some 8), .bin .geq (.t 6) (.t 7), none⟩,
    ⟨(some 9), .mov (.t 8), none⟩,
    ⟨(some 10), .faddr (some 3) 3 (.b 3), (some (9, true))⟩,
    ⟨(some 11), .load (some 3) 1 false (.t 10), (some (9, true))⟩,
    ⟨(some 12), .load none 1 false (.t 2), (some (9, true))⟩,
    ⟨(some 13), .bin .leq (.t 11) (.t 12), (some (9, true))⟩,
    ⟨(some 14), .pick (.t 9) (.t 13) (.c (.bool false)), none⟩,
    ⟨(some 4), .mov (.t 14), none⟩]) <|
  .ret
def ir92 : IFn := ⟨15, [3], 3, [.tmp 4], c92⟩
theorem ok92 : compFn prog [3] [] f92 = some ir92 := by kernel_rfl
theorem wp92 {a0 a1 a2 : AV} {r : AV} (H : ∀ σ, WpI prog c92 (retQ [.tmp 4] fun v s => v = r ∧ s = σ) (argE [a0, a1, a2]) 0 σ) : Pure prog 92 [a0, a1, a2] r := @pure_of_wp prog hm 92 f92 [3] [] ir92 [a0, a1, a2] r func92 ok92 (Nat.le_of_ble_eq_true rfl) H
theorem wa92 {a0 a1 a2 : AV} {σ : Heap} {R : AV → Heap → Prop} (H : WpI prog c92 (retQ [.tmp 4] R) (argE [a0, a1, a2]) 0 σ) : CallsA prog 92 [a0, a1, a2] σ R := @callsA_of_wp prog [3] hm 92 f92 [] ir92 [a0, a1, a2] σ R func92 ok92 (Nat.le_of_ble_eq_true rfl) H
/- history.those[history.Row] -/
def c90l0 : ICode :=
  .seq (.region 1 [⟨(some 11), .bin .lss (.t 10) (.t 9), none⟩]) <|
  .seq (.cond (.t 11) (.skip) (.exit 0)) <|
  .seq (.block 1 (.seq (.region 4 [⟨(some 12), .iaddrS 8 (.t 8) (.t 10), none⟩,
    ⟨(some 13), .load none 8 true (.t 12), none⟩,
    ⟨(some 7), .nbox 2 (.agg [(.int 0), (.int 0), (.int 0), (.int 0), (.int 0), (.int 0), (.bool false), (.bool false)]), none⟩,
    ⟨none, .store (some 7) 8 (.b 7) (.t 13), none⟩]) <|
  .seq (.region 3 [⟨(some 14), .mov (.t 1), none⟩,
    ⟨(some 15), .load (some 7) 8 true (.b 7), none⟩,
    ⟨(some 16), .call (.t 14) [(.t 15)], none⟩]) <|
  .cond (.t 16) (.region 5 [⟨(some 17), .mov (.t 5), none⟩,
    ⟨(some 18), .load (some 7) 8 true (.b 7), none⟩,
    ⟨(some 19), .bslice 8 [(.t 18)], none⟩,
    ⟨(some 20), .app 8 56 (.t 17) (.t 19), none⟩,
    ⟨(some 5), .mov (.t 20), none⟩]) (.skip))) <|
  .region 2 [⟨(some 21), .bin .add (.t 10) (.c (.int 1)), none⟩,
    ⟨(some 10), .mov (.t 21), none⟩]
def c90 : ICode :=
  .seq (.region 1 [⟨(some 4), .mov (.c .nils), none⟩]) <|
  .seq (.region 1 [⟨(some 5), .mov (.c .nils), none⟩]) <|
  .seq (.seq (.region 3 [⟨(some 8), .mov (.t 0), none⟩,
    ⟨(some 9), .len (.t 8), none⟩,
    ⟨(some 10), .mov (.c (.int 0)), none⟩]) <|
  .block 0 (.loop c90l0)) <|
  .seq (.region 2 [⟨(some 22), .mov (.t 5), none⟩,
    ⟨(some 4), .mov (.t 22), none⟩]) <|
  .ret
def ir90 : IFn := ⟨23, [7], 2, [.tmp 4], c90⟩
theorem ok90 : compFn prog [7] [] f90 = some ir90 := by kernel_rfl
theorem wp90 {a0 a1 : AV} {r : AV} (H : ∀ σ, WpI prog c90 (retQ [.tmp 4] fun v s => v = r ∧ s = σ) (argE [a0, a1]) 0 σ) : Pure prog 90 [a0, a1] r := @pure_of_wp prog hm 90 f90 [7] [] ir90 [a0, a1] r func90 ok90 (Nat.le_of_ble_eq_true rfl) H
theorem wa90 {a0 a1 : AV} {σ : Heap} {R : AV → Heap → Prop} (H : WpI prog c90 (retQ [.tmp 4] R) (argE [a0, a1]) 0 σ) : CallsA prog 90 [a0, a1] σ R := @callsA_of_wp prog [7] hm 90 f90 [] ir90 [a0, a1] σ R func90 ok90 (Nat.le_of_ble_eq_true rfl) H
/- history.Of -/
def c23 : ICode :=
  .seq (.region 3 [⟨(some 2), .bbox 0 (.t 0), none⟩,
    ⟨(some 3), .hbox (.t 1), none⟩,
    ⟨(some 4), .mov (.c .nils), none⟩]) <|
  .seq (.region 5 [⟨(some 5), .load (some 2) 44 true (.b 2), none⟩,
    ⟨(some 6), .call (.c (.clo 16 [])) [(.t 5)], none⟩,
    ⟨(some 7), .mkf 91 [(.t 3)], none⟩,
    ⟨(some 8), .call (.c (.clo 90 [])) [(.t 6), (.t 7)], none⟩,
    ⟨(some 4), .mov (.t 8), none⟩]) <|
  .ret
def ir23 : IFn := ⟨9, [2], 2, [.tmp 4], c23⟩
theorem ok23 : compFn prog [2] [] f23 = some ir23 := by kernel_rfl
theorem wp23 {a0 a1 : AV} {r : AV} (H : ∀ σ, WpI prog c23 (retQ [.tmp 4] fun v s => v = r ∧ s = σ) (argE [a0, a1]) 0 σ) : Pure prog 23 [a0, a1] r := @pure_of_wp prog hm 23 f23 [2] [] ir23 [a0, a1] r func23 ok23 (Nat.le_of_ble_eq_true rfl) H
theorem wa23 {a0 a1 : AV} {σ : Heap} {R : AV → Heap → Prop} (H : WpI prog c23 (retQ [.tmp 4] R) (argE [a0, a1]) 0 σ) : CallsA prog 23 [a0, a1] σ R := @callsA_of_wp prog [2] hm 23 f23 [] ir23 [a0, a1] σ R func23 ok23 (Nat.le_of_ble_eq_true rfl) H
/- history.Between -/
def c24 : ICode :=
  .seq (.region 3 [⟨(some 4), .hbox (.t 1), none⟩,
    ⟨(some 5), .hbox (.t 2), none⟩,
    ⟨(some 6), .mov (.c .nils), none⟩]) <|
  .seq (.region 4 [⟨(some 7), .mov (.t 0), none⟩,
    ⟨(some 8), .mkf 92 [(.t 4), (.t 5)], none⟩,
    ⟨(some 9), .call (.c (.clo 90 [])) [(.t 7), (.t 8)], none⟩,
    ⟨(some 6), .mov (.t 9), none⟩]) <|
  .ret
def ir24 : IFn := ⟨10, [], 3, [.tmp 6], c24⟩
theorem ok24 : compFn prog [] [] f24 = some ir24 := by kernel_rfl
theorem wp24 {a0 a1 a2 : AV} {r : AV} (H : ∀ σ, WpI prog c24 (retQ [.tmp 6] fun v s => v = r ∧ s = σ) (argE [a0, a1, a2]) 0 σ) : Pure prog 24 [a0, a1, a2] r := @pure_of_wp prog hm 24 f24 [] [] ir24 [a0, a1, a2] r func24 ok24 (Nat.le_of_ble_eq_true rfl) H
theorem wa24 {a0 a1 a2 : AV} {σ : Heap} {R : AV → Heap → Prop} (H : WpI prog c24 (retQ [.tmp 6] R) (argE [a0, a1, a2]) 0 σ) : CallsA prog 24 [a0, a1, a2] σ R := @callsA_of_wp prog [] hm 24 f24 [] ir24 [a0, a1, a2] σ R func24 ok24 (Nat.le_of_ble_eq_true rfl) H


theorem ld_int {σ : Heap} {b : Nat} {u : Int} (hb : σ b = some (.row 1 [.int u])) : loadA σ 1 false (.ptr b 0 0) = some (.int u) := by
  simp only [loadA, hb, rowOf, Option.bind_some, List.getElem?_cons_zero]; rfl

theorem k_ofIs {σ : Heap} {b : Nat} {u : Int} (hb : σ b = some (.row 1 [.int u])) (r : Row) : PureAt prog 91 [encRow r, .ptr b 0 0] σ (.bool (decide (r.User = u))) := by
  have hl : loadA σ 1 false (.ptr b 0 0) = some (.int u) := ld_int hb
  refine wa91 ?_
  unfold c91
  simp -dsimp (disch := first | omega | assumption) only [↓PB, ↓reduceIte, QB, QC, QD, QE, Nat.reduceAdd, Nat.reduceMul, Nat.reduceEqDiff, Nat.reduceLT, Nat.reduceLeDiff, reduceCtorEq, QF, QG, QH, QI, QJ]
  repeat' (first
    | (with_reducible refine condD (fun _ => ?_) (fun _ => ?_)) <;> try (exfalso; omega)
    | (with_reducible refine condB (fun _ => ?_) (fun _ => ?_))
    | (with_reducible refine guardD (fun _ => ?_) (fun _ => ?_)) <;> try (exfalso; omega)
    | (with_reducible refine guardB (fun _ => ?_) (fun _ => ?_))
    | (with_reducible refine app_row (by assumption) src_lst (by simp only [List.length_map, List.length_append, List.length_cons, List.length_nil]; omega) (by simp only [List.length_map, List.length_append, List.length_cons, List.length_nil]; omega) (fun _ _ => ?_))
    | (simp -dsimp (disch := first | omega | assumption) only [↓PB, ↓reduceIte, QB, QC, QD, QE, Nat.reduceAdd, Nat.reduceMul, Nat.reduceEqDiff, Nat.reduceLT, Nat.reduceLeDiff, reduceCtorEq, QF, QG, QH, QI, QJ, *]))
  exact RetG.same ⟨rfl, rfl⟩

theorem k_betweenIs {σ : Heap} {b c : Nat} {u v : Int} (hb : σ b = some (.row 1 [.int u])) (hc : σ c = some (.row 1 [.int v])) (r : Row) :
    PureAt prog 92 [encRow r, .ptr b 0 0, .ptr c 0 0] σ (.bool (decide (u ≤ r.Time) && decide (r.Time ≤ v))) := by
  have hl : loadA σ 1 false (.ptr b 0 0) = some (.int u) := ld_int hb
  have hl' : loadA σ 1 false (.ptr c 0 0) = some (.int v) := ld_int hc
  refine wa92 ?_
  unfold c92
  simp -dsimp (disch := first | omega | assumption) only [↓PB, ↓reduceIte, QB, QC, QD, QE, Nat.reduceAdd, Nat.reduceMul, Nat.reduceEqDiff, Nat.reduceLT, Nat.reduceLeDiff, reduceCtorEq, QF, QG, QH, QI, QJ]
  repeat' (first
    | (with_reducible refine condD (fun _ => ?_) (fun _ => ?_)) <;> try (exfalso; omega)
    | (with_reducible refine condB (fun _ => ?_) (fun _ => ?_))
    | (with_reducible refine guardD (fun _ => ?_) (fun _ => ?_)) <;> try (exfalso; omega)
    | (with_reducible refine guardB (fun _ => ?_) (fun _ => ?_))
    | (with_reducible refine app_row (by assumption) src_lst (by simp only [List.length_map, List.length_append, List.length_cons, List.length_nil]; omega) (by simp only [List.length_map, List.length_append, List.length_cons, List.length_nil]; omega) (fun _ _ => ?_))
    | (simp -dsimp (disch := first | omega | assumption) only [↓PB, ↓reduceIte, QB, QC, QD, QE, Nat.reduceAdd, Nat.reduceMul, Nat.reduceEqDiff, Nat.reduceLT, Nat.reduceLeDiff, reduceCtorEq, QF, QG, QH, QI, QJ, *]))
  all_goals exact RetG.same ⟨by simp [oneOrTup, *], rfl⟩

theorem k_those {σ : Heap} {f : FuncId} {caps : List AV} {is : Row → Bool} (hcall : ∀ σ' : Heap, (∀ b, σ b ≠ none → σ' b = σ b) → ∀ r, PureAt prog f ([encRow r] ++ caps) σ' (.bool (is r))) (l : List Row) (hn : l.length ≤ 1000000) :
    PureAt prog 90 [encL 8 encRow l, .clo f caps] σ (encL 8 encRow (l.filter is)) := by
  refine wa90 ?_
  unfold c90
  simp -dsimp (disch := first | omega | assumption) only [↓PB, ↓reduceIte, QB, QC, QD, QE, Nat.reduceAdd, Nat.reduceMul, Nat.reduceEqDiff, Nat.reduceLT, Nat.reduceLeDiff, reduceCtorEq, QF, QG, QH, QI, QJ]
  refine loop_a l.length 5 8 (fun i es e => ∃ m : List Row, es = m.map encRow ∧ e 10 = .int i ∧ (l.take i).filter is = m ∧ m.length ≤ i) 0 (by omega) (by simp -dsimp (disch := first | omega | assumption) only [↓PB, ↓reduceIte, QB, QC, QD, QE, Nat.reduceAdd, Nat.reduceMul, Nat.reduceEqDiff, Nat.reduceLT, Nat.reduceLeDiff, reduceCtorEq, QF, QG, QH, QI, QJ, *]) (by decide) (fun x => ⟨[], rfl, by simp -dsimp (disch := first | omega | assumption) only [↓PB, ↓reduceIte, QB, QC, QD, QE, Nat.reduceAdd, Nat.reduceMul, Nat.reduceEqDiff, Nat.reduceLT, Nat.reduceLeDiff, reduceCtorEq, QF, QG, QH, QI, QJ, *] <;> rfl, rfl, by simp⟩) ?_
  rintro i e n c es hi hc ha h5 ⟨m, rfl, h10, hm, hml⟩
  have g1 := ha 1 (by decide)
  have g8 := ha 8 (by decide)
  have g9 := ha 9 (by decide)
  simp -dsimp (disch := first | omega | assumption) only [↓PB, ↓reduceIte, QB, QC, QD, QE, Nat.reduceAdd, Nat.reduceMul, Nat.reduceEqDiff, Nat.reduceLT, Nat.reduceLeDiff, reduceCtorEq, QF, QG, QH, QI, QJ, *] at g1 g8 g9
  clear ha
  unfold c90l0
  by_cases hlt : i < l.length
  · have hcl := hcall (upd σ c (some (.row 8 (m.map encRow)))) (fun b hb => upd_ne _ _ (fun e => hb (e ▸ hc))) l[i]
    have htk : (l.take (i + 1)).filter is = m ++ (if is l[i] then [l[i]] else []) := by
      rw [List.take_succ_eq_append_getElem hlt, List.filter_append, hm]
      cases h : is l[i] <;> simp [List.filter_cons, h]
    repeat' (first
      | (refine CallG.atc hcl ?_)
      | (with_reducible refine condD (fun _ => ?_) (fun _ => ?_)) <;> try (exfalso; omega)
      | (with_reducible refine condB (fun _ => ?_) (fun _ => ?_))
      | (with_reducible refine guardD (fun _ => ?_) (fun _ => ?_)) <;> try (exfalso; omega)
      | (with_reducible refine guardB (fun _ => ?_) (fun _ => ?_))
      | (with_reducible refine app_row (by assumption) src_lst (by simp only [List.length_map, List.length_append, List.length_cons, List.length_nil]; omega) (by simp only [List.length_map, List.length_append, List.length_cons, List.length_nil]; omega) (fun _ _ => ?_))
      | (simp -dsimp (disch := first | omega | assumption) only [↓PB, ↓reduceIte, QB, QC, QD, QE, Nat.reduceAdd, Nat.reduceMul, Nat.reduceEqDiff, Nat.reduceLT, Nat.reduceLeDiff, reduceCtorEq, QF, QG, QH, QI, QJ, *]))
    · exact ⟨_, _, by assumption, rfl, rfl, m ++ [l[i]], by simp, by simp, by simp, by simp; omega⟩
    · exact ⟨_, _, by assumption, rfl, rfl, m, rfl, by simp, by simp, by omega⟩
  · repeat' (first
      | (with_reducible refine condD (fun _ => ?_) (fun _ => ?_)) <;> try (exfalso; omega)
      | (with_reducible refine condB (fun _ => ?_) (fun _ => ?_))
      | (with_reducible refine guardD (fun _ => ?_) (fun _ => ?_)) <;> try (exfalso; omega)
      | (with_reducible refine guardB (fun _ => ?_) (fun _ => ?_))
      | (with_reducible refine app_row (by assumption) src_lst (by simp only [List.length_map, List.length_append, List.length_cons, List.length_nil]; omega) (by simp only [List.length_map, List.length_append, List.length_cons, List.length_nil]; omega) (fun _ _ => ?_))
      | (simp -dsimp (disch := first | omega | assumption) only [↓PB, ↓reduceIte, QB, QC, QD, QE, Nat.reduceAdd, Nat.reduceMul, Nat.reduceEqDiff, Nat.reduceLT, Nat.reduceLeDiff, reduceCtorEq, QF, QG, QH, QI, QJ, *]))
    rw [List.take_of_length_le (by omega)] at hm
    exact ret_row hc ⟨by rw [hm]; simp [encL], rfl⟩

theorem k_historyOf {σ : Heap} (h0 : Tab σ) (s : State) (hg : stateGood s = true) (u : Int) : PureAt prog 23 [encState s, .int u] σ (encL 8 encRow ((histOf s).filter fun r => decide (r.User = u))) := by
  have hlen : (histOf s).length ≤ 1000000 := by
    rw [histOf, List.length_map, (sortIns_perm _).length_eq]; exact (stateGood_tx hg).2.2.2.1
  refine wa23 ?_
  unfold c23
  simp -dsimp (disch := first | omega | assumption) only [↓PB, ↓reduceIte, QB, QC, QD, QE, Nat.reduceAdd, Nat.reduceMul, Nat.reduceEqDiff, Nat.reduceLT, Nat.reduceLeDiff, reduceCtorEq, QF, QG, QH, QI, QJ]
  intro b hb
  have hT : Tab (upd σ b (some (.row 1 [.int u]))) := by unfold Tab; rw [upd_ne _ _ (fun e => by rw [← e, h0] at hb; cases hb)]; exact h0
  have kA := k_historyAll' hT s hg
  have kT := k_those (σ := upd σ b (some (.row 1 [.int u]))) (f := 91) (caps := [.ptr b 0 0]) (is := fun r => decide (r.User = u)) (fun σ' h r => k_ofIs (by rw [h b (by rw [upd_same]; simp), upd_same]) r) (histOf s) hlen
  repeat' (first
    | (refine CallG.at kA ?_)
    | (refine CallG.at kT ?_)
    | (with_reducible refine condD (fun _ => ?_) (fun _ => ?_)) <;> try (exfalso; omega)
    | (with_reducible refine condB (fun _ => ?_) (fun _ => ?_))
    | (with_reducible refine guardD (fun _ => ?_) (fun _ => ?_)) <;> try (exfalso; omega)
    | (with_reducible refine guardB (fun _ => ?_) (fun _ => ?_))
    | (with_reducible refine app_row (by assumption) src_lst (by simp only [List.length_map, List.length_append, List.length_cons, List.length_nil]; omega) (by simp only [List.length_map, List.length_append, List.length_cons, List.length_nil]; omega) (fun _ _ => ?_))
    | (simp -dsimp (disch := first | omega | assumption) only [↓PB, ↓reduceIte, QB, QC, QD, QE, Nat.reduceAdd, Nat.reduceMul, Nat.reduceEqDiff, Nat.reduceLT, Nat.reduceLeDiff, reduceCtorEq, QF, QG, QH, QI, QJ, *]))
  exact RetG.drop hb (RetG.same ⟨rfl, rfl⟩)

theorem k_historyBetween {σ : Heap} (l : List Row) (hn : l.length ≤ 1000000) (u v : Int) : PureAt prog 24 [encL 8 encRow l, .int u, .int v] σ (encL 8 encRow (l.filter fun r => decide (u ≤ r.Time) && decide (r.Time ≤ v))) := by
  refine wa24 ?_
  unfold c24
  simp -dsimp (disch := first | omega | assumption) only [↓PB, ↓reduceIte, QB, QC, QD, QE, Nat.reduceAdd, Nat.reduceMul, Nat.reduceEqDiff, Nat.reduceLT, Nat.reduceLeDiff, reduceCtorEq, QF, QG, QH, QI, QJ]
  intro b hb
  have hσb : ∀ {x}, (upd σ b x) b = x := fun {x} => upd_same _ _ _
  try simp -dsimp (disch := first | omega | assumption) only [↓PB, ↓reduceIte, QB, QC, QD, QE, Nat.reduceAdd, Nat.reduceMul, Nat.reduceEqDiff, Nat.reduceLT, Nat.reduceLeDiff, reduceCtorEq, QF, QG, QH, QI, QJ]
  intro c hc
  have hne : c ≠ b := fun e => by rw [e, upd_same] at hc; cases hc
  have kT := k_those (σ := upd (upd σ b (some (.row 1 [.int u]))) c (some (.row 1 [.int v]))) (f := 92) (caps := [.ptr b 0 0, .ptr c 0 0]) (is := fun r => decide (u ≤ r.Time) && decide (r.Time ≤ v))
    (fun σ' h r => k_betweenIs (by rw [h b (by rw [upd_ne _ _ (Ne.symm hne), upd_same]; simp), upd_ne _ _ (Ne.symm hne), upd_same]) (by rw [h c (by rw [upd_same]; simp), upd_same]) r) l hn
  repeat' (first
    | (refine CallG.at kT ?_)
    | (with_reducible refine condD (fun _ => ?_) (fun _ => ?_)) <;> try (exfalso; omega)
    | (with_reducible refine condB (fun _ => ?_) (fun _ => ?_))
    | (with_reducible refine guardD (fun _ => ?_) (fun _ => ?_)) <;> try (exfalso; omega)
    | (with_reducible refine guardB (fun _ => ?_) (fun _ => ?_))
    | (with_reducible refine app_row (by assumption) src_lst (by simp only [List.length_map, List.length_append, List.length_cons, List.length_nil]; omega) (by simp only [List.length_map, List.length_append, List.length_cons, List.length_nil]; omega) (fun _ _ => ?_))
    | (simp -dsimp (disch := first | omega | assumption) only [↓PB, ↓reduceIte, QB, QC, QD, QE, Nat.reduceAdd, Nat.reduceMul, Nat.reduceEqDiff, Nat.reduceLT, Nat.reduceLeDiff, reduceCtorEq, QF, QG, QH, QI, QJ, *]))
  exact RetG.drop hc (RetG.drop hb (RetG.same ⟨rfl, rfl⟩))
end Go.Av

namespace Go.Av
open Go.Proofs.Tryz
set_option maxRecDepth 100000
set_option linter.unusedSimpArgs false
set_option linter.unusedVariables false

/- history.Users -/
def c25l0 : ICode :=
  .seq (.region 1 [⟨(some 9), .bin .lss (.t 8) (.t 7), none⟩]) <|
  .seq (.cond (.t 9) (.skip) (.exit 0)) <|
  .seq (.block 1 (.seq (.region 4 [⟨(some 10), .iaddrS 8 (.t 6) (.t 8), none⟩,
    ⟨(some 11), .load none 8 true (.t 10), none⟩,
    ⟨(some 5), .nbox 2 (.agg [(.int 0), (.int 0), (.int 0), (.int 0), (.int 0), (.int 0), (.bool false), (.bool false)]), none⟩,
    ⟨none, .store (some 5) 8 (.b 5) (.t 11), none⟩]) <|
  .seq (.seq (.region 8 [⟨(some 12), .faddr (some 5) 2 (.b 5), none⟩,
    ⟨(some 13), .load (some 5) 1 false (.t 12), none⟩,
    ⟨(some 14), .bin .lss (.t 13) (.c (.int 0)), none⟩,
    ⟨(some 15), .mov (.t 14), none⟩,
    ⟨(some 16), .faddr (some 5) 2 (.b 5), (some (15, false))⟩,
    ⟨(some 17), .load (some 5) 1 false (.t 16), (some (15, false))⟩,
    ⟨(some 18), .bin .geq (.t 17) (.c (.int 8)), (some (15, false))⟩,
    ⟨(some 19), .pick (.t 15) (.c (.bool true)) (.t 18), none⟩]) <|
  .cond (.t 19) (.exit 1) (.skip)) <|
  .seq (.region 2 [⟨(some 20), .faddr (some 5) 6 (.b 5), none⟩,
    ⟨(some 21), .load (some 5) 1 false (.t 20), none⟩]) <|
  .cond (.t 21) (.region 9 [⟨(some 22), .faddr (some 5) 2 (.b 5), none⟩,
    ⟨(some 23), .load (some 5) 1 false (.t 22), none⟩,
    ⟨(some 24), .iaddrA (some 3) 8 2 (.b 3) (.t 23), none⟩,
    ⟨(some 25), .iaddrA (some 3) 2 1 (.t 24) (.c (.int 0)), none⟩,
    ⟨(some 26), .load (some 3) 1 false (.t 25), none⟩,
    ⟨(some 27), .bin .add (.t 26) (.c (.int 1)), none⟩,
    ⟨(some 28), .iaddrA (some 3) 8 2 (.b 3) (.t 23), none⟩,
    ⟨(some 29), .iaddrA (some 3) 2 1 (.t 28) (.c (.int 0)), none⟩,
    ⟨none, .store (some 3) 1 (.t 29) (.t 27), none⟩]) (.region 9 [⟨(some 30), .faddr (some 5) 2 (.b 5), none⟩,
    ⟨(some 31), .load (some 5) 1 false (.t 30), none⟩,
    ⟨(some 32), .iaddrA (some 3) 8 2 (.b 3) (.t 31), none⟩,
    ⟨(some 33), .iaddrA (some 3) 2 1 (.t 32) (.c (.int 1)), none⟩,
    ⟨(some 34), .load (some 3) 1 false (.t 33), none⟩,
    ⟨(some 35), .bin .add (.t 34) (.c (.int 1)), none⟩,
    ⟨(some 36), .iaddrA (some 3) 8 2 (.b 3) (.t 31), none⟩,
    ⟨(some 37), .iaddrA (some 3) 2 1 (.t 36) (.c (.int 1)), none⟩,
    ⟨none, .store (some 3) 1 (.t 37) (.t 35), none⟩]))) <|
  .region 2 [⟨(some 38), .bin .add (.t 8) (.c (.int 1)), none⟩,
    ⟨(some 8), .mov (.t 38), none⟩]
def c25 : ICode :=
  .seq (.region 1 [⟨(some 2), .nbox 0 (.agg [(.int 0), (.int 0), (.int 0), (.int 0), (.int 0), (.int 0), (.int 0), (.int 0), (.int 0), (.int 0), (.int 0), (.int 0), (.int 0), (.int 0), (.int 0), (.int 0)]), none⟩]) <|
  .seq (.region 1 [⟨(some 3), .nbox 0 (.agg [(.int 0), (.int 0), (.int 0), (.int 0), (.int 0), (.int 0), (.int 0), (.int 0), (.int 0), (.int 0), (.int 0), (.int 0), (.int 0), (.int 0), (.int 0), (.int 0)]), none⟩]) <|
  .seq (.seq (.region 3 [⟨(some 6), .mov (.t 0), none⟩,
    ⟨(some 7), .len (.t 6), none⟩,
    ⟨(some 8), .mov (.c (.int 0)), none⟩]) <|
  .block 0 (.loop c25l0)) <|
  .seq (.region 2 [⟨(some 39), .load (some 3) 16 true (.b 3), none⟩,
    ⟨none, .store (some 2) 16 (.b 2) (.t 39), none⟩]) <|
  .ret
def ir25 : IFn := ⟨40, [2, 3, 5], 1, [.cell 2 16 true], c25⟩
theorem ok25 : compFn prog [2, 3, 5] [] f25 = some ir25 := by kernel_rfl
theorem wp25 {a0 : AV} {r : AV} (H : ∀ σ, WpI prog c25 (retQ [.cell 2 16 true] fun v s => v = r ∧ s = σ) (argE [a0]) 0 σ) : Pure prog 25 [a0] r := @pure_of_wp prog hm 25 f25 [2, 3, 5] [] ir25 [a0] r func25 ok25 (Nat.le_of_ble_eq_true rfl) H
theorem wa25 {a0 : AV} {σ : Heap} {R : AV → Heap → Prop} (H : WpI prog c25 (retQ [.cell 2 16 true] R) (argE [a0]) 0 σ) : CallsA prog 25 [a0] σ R := @callsA_of_wp prog [2, 3, 5] hm 25 f25 [] ir25 [a0] σ R func25 ok25 (Nat.le_of_ble_eq_true rfl) H


theorem vpt {v : Vec} {k : Nat} (h : k < 16) : AV.part k 1 false (encVec v) = some (.int (v.at k)) := by
  have := part_at (f := AV.int) (l := v.l) (n := k) (off := 0) [] [] 0 rfl (by rw [v.h]; exact h)
  simpa [encVec, Vec.at] using this
theorem vst {v : Vec} {k : Nat} {x : Int} (h : k < 16) : AV.setPart k [.int x] (encVec v) = some (encVec (v.set k x)) := by
  obtain ⟨l, hl⟩ := v
  match l, hl with
  | [a0, a1, a2, a3, a4, a5, a6, a7, a8, a9, a10, a11, a12, a13, a14, a15], _ =>
    rcases k with _ | _ | _ | _ | _ | _ | _ | _ | _ | _ | _ | _ | _ | _ | _ | _ | k
    all_goals first | rfl | omega
theorem vpt2 {v : Vec} {k : Nat} (h : k < 8) : AV.part (k * 2) 2 true (encVec v) = some (.agg [.int (v.at (k * 2)), .int (v.at (k * 2 + 1))]) := by
  obtain ⟨l, hl⟩ := v
  match l, hl with
  | [a0, a1, a2, a3, a4, a5, a6, a7, a8, a9, a10, a11, a12, a13, a14, a15], _ =>
    rcases k with _ | _ | _ | _ | _ | _ | _ | _ | k
    all_goals first | rfl | omega
theorem vwhole {v w : Vec} : AV.setPart 0 (encVec v).cells (encVec w) = some (encVec v) := by
  obtain ⟨l, hl⟩ := v
  obtain ⟨l', hl'⟩ := w
  match l, hl, l', hl' with
  | [_, _, _, _, _, _, _, _, _, _, _, _, _, _, _, _], _, [_, _, _, _, _, _, _, _, _, _, _, _, _, _, _, _], _ => rfl
theorem vpw {v : Vec} : AV.part 0 16 true (encVec v) = some (encVec v) := by
  obtain ⟨l, hl⟩ := v
  match l, hl with
  | [_, _, _, _, _, _, _, _, _, _, _, _, _, _, _, _], _ => rfl
theorem at_set {v : Vec} {k j : Nat} {x : Int} (h : k < 16) : (v.set k x).at j = if j = k then x else v.at j := by
  unfold Vec.set Vec.at
  simp only [List.getD_eq_getElem?_getD, List.getElem?_set, v.h]
  by_cases hj : k = j
  · subst hj; simp [h]
  · rw [if_neg hj, if_neg (Ne.symm hj)]

/-- How many rows there are of a user that count (at even places), and that don't. -/
def isU (k : Nat) (r : Row) : Bool := decide (r.User = ((k / 2 : Nat) : Int)) && (r.Counts == decide (k % 2 = 0))
def cntU (l : List Row) (k : Nat) : Int := ((l.filter (isU k)).length : Nat)
theorem cntU_take (l : List Row) (i k : Nat) (h : i < l.length) : cntU (l.take (i + 1)) k = cntU (l.take i) k + (if isU k l[i] then 1 else 0) := by
  unfold cntU
  rw [List.take_succ_eq_append_getElem h, List.filter_append, List.length_append]
  cases hg : isU k l[i] <;> simp [List.filter_cons, hg]
theorem cntU_le (l : List Row) (i k : Nat) : 0 ≤ cntU (l.take i) k ∧ cntU (l.take i) k ≤ i := by
  unfold cntU
  have := List.length_filter_le (isU k) (l.take i)
  rw [List.length_take] at this
  omega

theorem vec_ext {v w : Vec} (h : ∀ k, k < 16 → v.at k = w.at k) : v = w := by
  obtain ⟨l, hl⟩ := v
  obtain ⟨l', hl'⟩ := w
  have : l = l' := List.ext_getElem (by omega) fun k h1 h2 => by
    have := h k (by omega)
    simpa [Vec.at, List.getD_eq_getElem?_getD, h1, h2] using this
  subst this; rfl
theorem isU_iff {r : Row} {k : Nat} (h0 : ¬ r.User < 0) : isU k r = true ↔ k = r.User.toNat * 2 + (if r.Counts = true then 0 else 1) := by
  unfold isU
  simp only [Bool.and_eq_true, decide_eq_true_eq]
  cases hc : r.Counts
  · have : (false == decide (k % 2 = 0)) = true ↔ k % 2 = 1 := by
      by_cases h : k % 2 = 0 <;> simp [h]; omega
    rw [this]; simp; omega
  · have : (true == decide (k % 2 = 0)) = true ↔ k % 2 = 0 := by
      by_cases h : k % 2 = 0 <;> simp [h]
    rw [this]; simp; omega
theorem isU_no {r : Row} {k : Nat} (hk : k < 16) (h0 : r.User < 0 ∨ 8 ≤ r.User) : isU k r = false := by
  unfold isU
  rw [decide_eq_false (by omega)]; rfl

theorem k_historyUsers (l : List Row) (hn : l.length ≤ 1000000) : ∃ v : Vec, (∀ k, k < 16 → v.at k = cntU l k) ∧ Pure prog 25 [encL 8 encRow l] (encVec v) := by
  have hex : ∃ v : Vec, ∀ k, k < 16 → v.at k = cntU l k := ⟨⟨(List.range 16).map (cntU l), by simp⟩, fun k hk => by simp [Vec.at, List.getD_eq_getElem?_getD, hk]⟩
  obtain ⟨v, hv⟩ := hex
  refine ⟨v, hv, ?_⟩
  refine wp25 fun σ => ?_
  unfold c25
  simp -dsimp (disch := first | omega | assumption) only [↓PB, ↓reduceIte, QB, QC, QD, QE, Nat.reduceAdd, Nat.reduceMul, Nat.reduceEqDiff, Nat.reduceLT, Nat.reduceLeDiff, reduceCtorEq, QF, QG, QH, QI, QJ]
  repeat' (first
    | (with_reducible refine condD (fun _ => ?_) (fun _ => ?_)) <;> try (exfalso; omega)
    | (with_reducible refine condB (fun _ => ?_) (fun _ => ?_))
    | (with_reducible refine guardD (fun _ => ?_) (fun _ => ?_)) <;> try (exfalso; omega)
    | (with_reducible refine guardB (fun _ => ?_) (fun _ => ?_))
    | (with_reducible refine app_row (by assumption) src_lst (by simp only [List.length_map, List.length_append, List.length_cons, List.length_nil]; omega) (by simp only [List.length_map, List.length_append, List.length_cons, List.length_nil]; omega) (fun _ _ => ?_))
    | (simp -dsimp (disch := first | omega | assumption) only [↓PB, ↓reduceIte, QB, QC, QD, QE, Nat.reduceAdd, Nat.reduceMul, Nat.reduceEqDiff, Nat.reduceLT, Nat.reduceLeDiff, reduceCtorEq, QF, QG, QH, QI, QJ, *]))
  refine loop_p l.length (fun i e => e 8 = .int i ∧ ∃ g : Vec, e 3 = .box 1 (encVec g) ∧ ∀ k, k < 16 → g.at k = cntU (l.take i) k) 0 (by omega) ⟨by simp -dsimp (disch := first | omega | assumption) only [↓PB, ↓reduceIte, QB, QC, QD, QE, Nat.reduceAdd, Nat.reduceMul, Nat.reduceEqDiff, Nat.reduceLT, Nat.reduceLeDiff, reduceCtorEq, QF, QG, QH, QI, QJ, *] <;> rfl, vec0, by simp -dsimp (disch := first | omega | assumption) only [↓PB, ↓reduceIte, QB, QC, QD, QE, Nat.reduceAdd, Nat.reduceMul, Nat.reduceEqDiff, Nat.reduceLT, Nat.reduceLeDiff, reduceCtorEq, QF, QG, QH, QI, QJ, *] <;> rfl, fun k hk => ?_⟩ ?_
  · rw [List.take_zero]
    match k, hk with
    | 0, _ | 1, _ | 2, _ | 3, _ | 4, _ | 5, _ | 6, _ | 7, _ | 8, _ | 9, _ | 10, _ | 11, _ | 12, _ | 13, _ | 14, _ => rfl
    | 15, _ => rfl
    | k + 16, h => exact absurd h (by omega)
  rintro i e n hi ha ⟨h8, g, h3, hg⟩
  have g6 := ha 6 (by decide)
  have g7 := ha 7 (by decide)
  have g2 := ha 2 (by decide)
  simp -dsimp (disch := first | omega | assumption) only [↓PB, ↓reduceIte, QB, QC, QD, QE, Nat.reduceAdd, Nat.reduceMul, Nat.reduceEqDiff, Nat.reduceLT, Nat.reduceLeDiff, reduceCtorEq, QF, QG, QH, QI, QJ, *] at g6 g7 g2
  clear ha
  unfold c25l0
  by_cases hlt : i < l.length
  · have hb := fun k => cntU_le l i k
    repeat' (first
      | (rw [if_pos (by decide)])
      | (with_reducible refine condD (fun _ => ?_) (fun _ => ?_)) <;> try (exfalso; omega)
      | (with_reducible refine condB (fun _ => ?_) (fun _ => ?_))
      | (with_reducible refine guardD (fun _ => ?_) (fun _ => ?_)) <;> try (exfalso; omega)
      | (with_reducible refine guardB (fun _ => ?_) (fun _ => ?_))
      | (with_reducible refine app_row (by assumption) src_lst (by simp only [List.length_map, List.length_append, List.length_cons, List.length_nil]; omega) (by simp only [List.length_map, List.length_append, List.length_cons, List.length_nil]; omega) (fun _ _ => ?_))
      | (simp -dsimp (disch := first | omega | assumption) only [↓PB, ↓reduceIte, QB, QC, QD, QE, Nat.reduceAdd, Nat.reduceMul, Nat.reduceEqDiff, Nat.reduceLT, Nat.reduceLeDiff, reduceCtorEq, QF, QG, QH, QI, QJ, vpt, vst, *]))
    · exact ⟨by simp, _, rfl, fun k hk => by rw [cntU_take _ _ _ hlt, hg k hk, isU_no hk (.inl (by assumption))]; simp⟩
    · exact ⟨by simp, _, rfl, fun k hk => by rw [cntU_take _ _ _ hlt, hg k hk, isU_no hk (.inr (by assumption))]; simp⟩
    · refine ⟨by simp, _, rfl, fun k hk => ?_⟩
      have hi := isU_iff (r := l[i]) (k := k) (by assumption)
      rw [if_pos (by assumption)] at hi
      rw [at_set (by omega), cntU_take _ _ _ hlt]
      split
      · rename_i hkk
        have hbk := hb (l[i].User.toNat * 2 + Int.toNat 0)
        rw [if_pos (hi.2 hkk), hkk, wr (by omega) (by omega)]
      · rename_i hkk
        rw [if_neg (fun h => hkk (hi.1 h)), hg k hk]; omega
    · refine ⟨by simp, _, rfl, fun k hk => ?_⟩
      have hi := isU_iff (r := l[i]) (k := k) (by assumption)
      rw [if_neg (by simp [*])] at hi
      rw [at_set (by omega), cntU_take _ _ _ hlt]
      split
      · rename_i hkk
        have hbk := hb (l[i].User.toNat * 2 + Int.toNat 1)
        rw [if_pos (hi.2 hkk), hkk, wr (by omega) (by omega)]
      · rename_i hkk
        rw [if_neg (fun h => hkk (hi.1 h)), hg k hk]; omega
  · repeat' (first
      | (with_reducible refine condD (fun _ => ?_) (fun _ => ?_)) <;> try (exfalso; omega)
      | (with_reducible refine condB (fun _ => ?_) (fun _ => ?_))
      | (with_reducible refine guardD (fun _ => ?_) (fun _ => ?_)) <;> try (exfalso; omega)
      | (with_reducible refine guardB (fun _ => ?_) (fun _ => ?_))
      | (with_reducible refine app_row (by assumption) src_lst (by simp only [List.length_map, List.length_append, List.length_cons, List.length_nil]; omega) (by simp only [List.length_map, List.length_append, List.length_cons, List.length_nil]; omega) (fun _ _ => ?_))
      | (simp -dsimp (disch := first | omega | assumption) only [↓PB, ↓reduceIte, QB, QC, QD, QE, Nat.reduceAdd, Nat.reduceMul, Nat.reduceEqDiff, Nat.reduceLT, Nat.reduceLeDiff, reduceCtorEq, QF, QG, QH, QI, QJ, vwhole, vpw, *]))
    rw [List.take_of_length_le (by omega)] at hg
    exact RetG.same ⟨by rw [vec_ext (fun k hk => (hg k hk).trans (hv k hk).symm)]; rfl, rfl⟩
end Go.Av

