/- Part 8 of the proof: own lemmas, of no statement. -/
import Derived.Test.YtjnenmbfojkoeaaGreatDoorVcg
set_option linter.unusedSimpArgs false
set_option linter.unusedVariables false
set_option linter.defProp false
namespace Go.Av
open Go.Proofs.Tryz
set_option maxRecDepth 100000
set_option linter.unusedSimpArgs false
set_option linter.unusedVariables false

/- r03.Char -/
def c308l0 : ICode :=
  .seq (.seq (.region 3 [⟨(some 49), .mov (.t 7), none⟩,
    ⟨(some 50), .mov (.t 5), none⟩,
    ⟨(some 51), .bin .lss (.t 49) (.t 50), none⟩]) <|
  .cond (.t 51) (.skip) (.exit 1)) <|
  .seq (.block 2 (.seq (.seq (.region 10 [⟨(some 54), .mov (.t 0), none⟩,
    ⟨(some 55), .mov (.t 7), none⟩,
    ⟨(some 56), .sidx (.t 54) (.t 55), none⟩,
    ⟨(some 57), .bin .lss (.t 56) (.c (.sc (.int .u8 128))), none⟩,
    ⟨(some 58), .mov (.t 57), none⟩,
    ⟨(some 59), .mov (.t 0), (some (58, false))⟩,
    ⟨(some 60), .mov (.t 7), (some (58, false))⟩,
    ⟨(some 61), .sidx (.t 59) (.t 60), (some (58, false))⟩,
    ⟨(some 62), .bin .gtr (.t 61) (.c (.sc (.int .u8 191))), (some (58, false))⟩,
    ⟨(some 63), .pick (.t 58) (.c (.bool true)) (.t 62), none⟩]) <|
  .cond (.t 63) (.seq (.region 2 [⟨(some 2), .mov (.c (.int 0)), none⟩,
    ⟨(some 3), .mov (.c (.int 0)), none⟩]) <|
  .ret) (.skip)) <|
  .region 9 [⟨(some 64), .mov (.t 4), none⟩,
    ⟨(some 65), .bin .mul (.c (.int 64)) (.t 64), none⟩,
    ⟨(some 66), .mov (.t 0), none⟩,
    ⟨(some 67), .mov (.t 7), none⟩,
    ⟨(some 68), .sidx (.t 66) (.t 67), none⟩,
    ⟨(some 69), .cvi .i64 (.t 68), none⟩,
    ⟨(some 70), .bin .add (.t 65) (.t 69), none⟩,
    ⟨(some 71), .bin .sub (.t 70) (.c (.int 128)), none⟩,
    ⟨(some 4), .mov (.t 71), none⟩])) <|
  .region 3 [⟨(some 52), .mov (.t 7), none⟩,
    ⟨(some 53), .bin .add (.t 52) (.c (.int 1)), none⟩,
    ⟨(some 7), .mov (.t 53), none⟩]
def c308 : ICode :=
  .seq (.region 2 [⟨(some 2), .mov (.c (.int 0)), none⟩,
    ⟨(some 3), .mov (.c (.int 0)), none⟩]) <|
  .seq (.seq (.region 3 [⟨(some 8), .mov (.t 0), none⟩,
    ⟨(some 9), .slen (.t 8), none⟩,
    ⟨(some 10), .bin .eql (.t 9) (.c (.int 0)), none⟩]) <|
  .cond (.t 10) (.seq (.region 2 [⟨(some 2), .mov (.c (.int 0)), none⟩,
    ⟨(some 3), .mov (.c (.int 0)), none⟩]) <|
  .ret) (.skip)) <|
  .seq (.region 4 [⟨(some 11), .mov (.t 0), none⟩,
    ⟨(some 12), .sidx (.t 11) (.c (.int 0)), none⟩,
    ⟨(some 13), .cvi .i64 (.t 12), none⟩,
    ⟨(some 4), .mov (.t 13), none⟩]) <|
  .seq (.region 2 [⟨(some 5), .mov (.c (.int 1)), none⟩,
    ⟨(some 6), .mov (.c (.int 0)), none⟩]) <|
  .seq (.block 0 (.seq (.region 3 [⟨(some 15), .mov (.t 4), none⟩,
    ⟨(some 16), .bin .lss (.t 15) (.c (.int 128)), none⟩,
    ⟨(some 14), .mov (.t 16), none⟩]) <|
  .cond (.t 14) (.seq (.region 3 [⟨(some 17), .mov (.t 4), none⟩,
    ⟨(some 2), .mov (.t 17), none⟩,
    ⟨(some 3), .mov (.c (.int 1)), none⟩]) <|
  .ret) (.seq (.region 7 [⟨(some 19), .mov (.t 4), none⟩,
    ⟨(some 20), .bin .geq (.t 19) (.c (.int 194)), none⟩,
    ⟨(some 21), .mov (.t 20), none⟩,
    ⟨(some 22), .mov (.t 4), (some (21, true))⟩,
    ⟨(some 23), .bin .lss (.t 22) (.c (.int 224)), (some (21, true))⟩,
    ⟨(some 24), .pick (.t 21) (.t 23) (.c (.bool false)), none⟩,
    ⟨(some 18), .mov (.t 24), none⟩]) <|
  .cond (.t 18) (.region 5 [⟨(some 25), .mov (.t 4), none⟩,
    ⟨(some 26), .bin .sub (.t 25) (.c (.int 192)), none⟩,
    ⟨(some 5), .mov (.c (.int 2)), none⟩,
    ⟨(some 6), .mov (.c (.int 128)), none⟩,
    ⟨(some 4), .mov (.t 26), none⟩]) (.seq (.region 7 [⟨(some 28), .mov (.t 4), none⟩,
    ⟨(some 29), .bin .geq (.t 28) (.c (.int 224)), none⟩,
    ⟨(some 30), .mov (.t 29), none⟩,
    ⟨(some 31), .mov (.t 4), (some (30, true))⟩,
    ⟨(some 32), .bin .lss (.t 31) (.c (.int 240)), (some (30, true))⟩,
    ⟨(some 33), .pick (.t 30) (.t 32) (.c (.bool false)), none⟩,
    ⟨(some 27), .mov (.t 33), none⟩]) <|
  .cond (.t 27) (.region 5 [⟨(some 34), .mov (.t 4), none⟩,
    ⟨(some 35), .bin .sub (.t 34) (.c (.int 224)), none⟩,
    ⟨(some 5), .mov (.c (.int 3)), none⟩,
    ⟨(some 6), .mov (.c (.int 2048)), none⟩,
    ⟨(some 4), .mov (.t 35), none⟩]) (.seq (.region 7 [⟨(some 37), .mov (.t 4), none⟩,
    ⟨(some 38), .bin .geq (.t 37) (.c (.int 240)), none⟩,
    ⟨(some 39), .mov (.t 38), none⟩,
    ⟨(some 40), .mov (.t 4), (some (39, true))⟩,
    ⟨(some 41), .bin .lss (.t 40) (.c (.int 245)), (some (39, true))⟩,
    ⟨(some 42), .pick (.t 39) (.t 41) (.c (.bool false)), none⟩,
    ⟨(some 36), .mov (.t 42), none⟩]) <|
  .cond (.t 36) (.region 5 [⟨(some 43), .mov (.t 4), none⟩,
    ⟨(some 44), .bin .sub (.t 43) (.c (.int 240)), none⟩,
    ⟨(some 5), .mov (.c (.int 4)), none⟩,
    ⟨(some 6), .mov (.c (.int 65536)), none⟩,
    ⟨(some 4), .mov (.t 44), none⟩]) (.seq (.region 2 [⟨(some 2), .mov (.c (.int 0)), none⟩,
    ⟨(some 3), .mov (.c (.int 0)), none⟩]) <|
  .ret)))))) <|
  .seq (.seq (.region 4 [⟨(some 45), .mov (.t 0), none⟩,
    ⟨(some 46), .slen (.t 45), none⟩,
    ⟨(some 47), .mov (.t 5), none⟩,
    ⟨(some 48), .bin .lss (.t 46) (.t 47), none⟩]) <|
  .cond (.t 48) (.seq (.region 2 [⟨(some 2), .mov (.c (.int 0)), none⟩,
    ⟨(some 3), .mov (.c (.int 0)), none⟩]) <|
  .ret) (.skip)) <|
  .seq (.seq (.region 1 [⟨(some 7), .mov (.c (.int 1)), none⟩]) <|
  .block 1 (.loop c308l0)) <|
  .seq (.seq (.region 15 [⟨(some 72), .mov (.t 4), none⟩,
    ⟨(some 73), .mov (.t 6), none⟩,
    ⟨(some 74), .bin .lss (.t 72) (.t 73), none⟩,
    ⟨(some 75), .mov (.t 74), none⟩,
    ⟨(some 76), .mov (.t 4), (some (75, false))⟩,
    ⟨(some 77), .bin .gtr (.t 76) (.c (.int 1114111)), (some (75, false))⟩,
    ⟨(some 78), .pick (.t 75) (.c (.bool true)) (.t 77), none⟩,
    ⟨(some 79), .mov (.t 78), none⟩,
    ⟨(some 80), .mov (.t 4), (some (79, false))⟩,
    ⟨(some 81), .bin .geq (.t 80) (.c (.int 55296)), (some (79, false))⟩,
    ⟨(some 82), .mov (.t 81), (some (79, false))⟩,
    ⟨(some 83), .mov (.t 4), (some (82, true))⟩,
    ⟨(some 84), .bin .leq (.t 83) (.c (.int 57343)), (some (82, true))⟩,
    ⟨(some 85), .pick (.t 82) (.t 84) (.c (.bool false)), (some (79, false))⟩,
    ⟨(some 86), .pick (.t 79) (.c (.bool true)) (.t 85), none⟩]) <|
  .cond (.t 86) (.seq (.region 2 [⟨(some 2), .mov (.c (.int 0)), none⟩,
    ⟨(some 3), .mov (.c (.int 0)), none⟩]) <|
  .ret) (.skip)) <|
  .seq (.region 4 [⟨(some 87), .mov (.t 4), none⟩,
    ⟨(some 88), .mov (.t 5), none⟩,
    ⟨(some 2), .mov (.t 87), none⟩,
    ⟨(some 3), .mov (.t 88), none⟩]) <|
  .ret
def ir308 : IFn := ⟨89, [], 1, [.tmp 2, .tmp 3], c308⟩
theorem ok308 : compFn prog [] [] f308 = some ir308 := by kernel_rfl
theorem wp308 {a0 : AV} {r : AV} (H : ∀ σ, WpI prog c308 (retQ [.tmp 2, .tmp 3] fun v s => v = r ∧ s = σ) (argE [a0]) 0 σ) : Pure prog 308 [a0] r := @pure_of_wp prog hm 308 f308 [] [] ir308 [a0] r func308 ok308 (Nat.le_of_ble_eq_true rfl) H
theorem wa308 {a0 : AV} {σ : Heap} {R : AV → Heap → Prop} (H : WpI prog c308 (retQ [.tmp 2, .tmp 3] R) (argE [a0]) 0 σ) : CallsA prog 308 [a0] σ R := @callsA_of_wp prog [] hm 308 f308 [] ir308 [a0] σ R func308 ok308 (Nat.le_of_ble_eq_true rfl) H
/- r03.may -/
def c307 : ICode :=
  .seq (.region 1 [⟨(some 2), .mov (.c (.bool false)), none⟩]) <|
  .seq (.region 15 [⟨(some 3), .mov (.t 0), none⟩,
    ⟨(some 4), .bin .geq (.t 3) (.c (.int 32)), none⟩,
    ⟨(some 5), .mov (.t 4), none⟩,
    ⟨(some 6), .mov (.t 0), (some (5, true))⟩,
    ⟨(some 7), .bin .lss (.t 6) (.c (.int 127)), (some (5, true))⟩,
    ⟨(some 8), .mov (.t 7), (some (5, true))⟩,
    ⟨(some 9), .mov (.t 0), (some (8, false))⟩,
    ⟨(some 10), .bin .gtr (.t 9) (.c (.int 159)), (some (8, false))⟩,
    ⟨(some 11), .pick (.t 8) (.c (.bool true)) (.t 10), (some (5, true))⟩,
    ⟨(some 12), .pick (.t 5) (.t 11) (.c (.bool false)), none⟩,
    ⟨(some 13), .mov (.t 12), none⟩,
    ⟨(some 14), .mov (.t 0), (some (13, true))⟩,
    ⟨(some 15), .bin .neq (.t 14) (.c (.int 65533)), (some (13, true))⟩,
    ⟨(some 16), .pick (.t 13) (.t 15) (.c (.bool false)), none⟩,
    ⟨(some 2), .mov (.t 16), none⟩]) <|
  .ret
def ir307 : IFn := ⟨17, [], 1, [.tmp 2], c307⟩
theorem ok307 : compFn prog [] [] f307 = some ir307 := by kernel_rfl
theorem wp307 {a0 : AV} {r : AV} (H : ∀ σ, WpI prog c307 (retQ [.tmp 2] fun v s => v = r ∧ s = σ) (argE [a0]) 0 σ) : Pure prog 307 [a0] r := @pure_of_wp prog hm 307 f307 [] [] ir307 [a0] r func307 ok307 (Nat.le_of_ble_eq_true rfl) H
theorem wa307 {a0 : AV} {σ : Heap} {R : AV → Heap → Prop} (H : WpI prog c307 (retQ [.tmp 2] R) (argE [a0]) 0 σ) : CallsA prog 307 [a0] σ R := @callsA_of_wp prog [] hm 307 f307 [] ir307 [a0] σ R func307 ok307 (Nat.le_of_ble_eq_true rfl) H
/- r03.Runes -/
def c253l0 : ICode :=
  .seq (.seq (.region 4 [⟨(some 8), .mov (.t 5), none⟩,
    ⟨(some 9), .mov (.t 0), none⟩,
    ⟨(some 10), .slen (.t 9), none⟩,
    ⟨(some 11), .bin .lss (.t 8) (.t 10), none⟩]) <|
  .cond (.t 11) (.skip) (.exit 0)) <|
  .block 1 (.seq (.region 9 [⟨(some 13), .mov (.t 0), none⟩,
    ⟨(some 14), .mov (.t 5), none⟩,
    ⟨(some 15), .sslc (.t 13) (some (.t 14)) none, none⟩,
    ⟨(some 16), .call (.c (.clo 308 [])) [(.t 15)], none⟩,
    ⟨(some 12), .mov (.t 16), none⟩,
    ⟨(some 17), .ext 0 (.t 12), none⟩,
    ⟨(some 18), .ext 1 (.t 12), none⟩,
    ⟨(some 6), .mov (.t 17), none⟩,
    ⟨(some 7), .mov (.t 18), none⟩]) <|
  .seq (.seq (.region 2 [⟨(some 19), .mov (.t 7), none⟩,
    ⟨(some 20), .bin .eql (.t 19) (.c (.int 0)), none⟩]) <|
  .cond (.t 20) (.seq (.region 2 [⟨(some 2), .mov (.c .nils), none⟩,
    ⟨(some 3), .mov (.c (.bool false)), none⟩]) <|
  .ret) (.skip)) <|
  .seq (.region 5 [⟨(some 21), .mov (.t 4), none⟩,
    ⟨(some 22), .mov (.t 6), none⟩,
    ⟨(some 23), .bslice 1 [(.t 22)], none⟩,
    ⟨(some 24), .app 1 8 (.t 21) (.t 23), none⟩,
    ⟨(some 4), .mov (.t 24), none⟩]) <|
  .region 4 [⟨(some 25), .mov (.t 5), none⟩,
    ⟨(some 26), .mov (.t 7), none⟩,
    ⟨(some 27), .bin .add (.t 25) (.t 26), none⟩,
    ⟨(some 5), .mov (.t 27), none⟩])
def c253 : ICode :=
  .seq (.region 2 [⟨(some 2), .mov (.c .nils), none⟩,
    ⟨(some 3), .mov (.c (.bool false)), none⟩]) <|
  .seq (.region 1 [⟨(some 4), .mov (.c .nils), none⟩]) <|
  .seq (.seq (.region 1 [⟨(some 5), .mov (.c (.int 0)), none⟩]) <|
  .block 0 (.loop c253l0)) <|
  .seq (.region 3 [⟨(some 28), .mov (.t 4), none⟩,
    ⟨(some 2), .mov (.t 28), none⟩,
    ⟨(some 3), .mov (.c (.bool true)), none⟩]) <|
  .ret
def ir253 : IFn := ⟨29, [], 1, [.tmp 2, .tmp 3], c253⟩
theorem ok253 : compFn prog [] [] f253 = some ir253 := by kernel_rfl
theorem wp253 {a0 : AV} {r : AV} (H : ∀ σ, WpI prog c253 (retQ [.tmp 2, .tmp 3] fun v s => v = r ∧ s = σ) (argE [a0]) 0 σ) : Pure prog 253 [a0] r := @pure_of_wp prog hm 253 f253 [] [] ir253 [a0] r func253 ok253 (Nat.le_of_ble_eq_true rfl) H
theorem wa253 {a0 : AV} {σ : Heap} {R : AV → Heap → Prop} (H : WpI prog c253 (retQ [.tmp 2, .tmp 3] R) (argE [a0]) 0 σ) : CallsA prog 253 [a0] σ R := @callsA_of_wp prog [] hm 253 f253 [] ir253 [a0] σ R func253 ok253 (Nat.le_of_ble_eq_true rfl) H


theorem k_r12_Compare (a b : Txn) : Pure prog 79 [encTxn a, encTxn b] (.int (cmpTxn a b)) := by
  refine wp79 fun σ => ?_
  unfold c79
  simp -dsimp (disch := first | omega | assumption) only [↓PB, ↓reduceIte, QB, QC, QD, QE, Nat.reduceAdd, Nat.reduceMul, Nat.reduceEqDiff, Nat.reduceLT, Nat.reduceLeDiff, reduceCtorEq]
  repeat' (first
    | (with_reducible refine CallG.pure (k_r04_Compare _ _) ?_)
    | (with_reducible refine CallQ.pure (k_r04_Compare _ _) ?_)
    | (with_reducible refine condD (fun _ => ?_) (fun _ => ?_)) <;> try (exfalso; omega)
    | (with_reducible refine condB (fun _ => ?_) (fun _ => ?_))
    | (with_reducible refine guardD (fun _ => ?_) (fun _ => ?_)) <;> try (exfalso; omega)
    | (with_reducible refine guardB (fun _ => ?_) (fun _ => ?_))
    | (with_reducible refine app_row (by assumption) src_lst (by simp only [List.length_map, List.length_append, List.length_cons, List.length_nil]; omega) (by simp only [List.length_map, List.length_append, List.length_cons, List.length_nil]; omega) (fun _ _ => ?_))
    | (simp -dsimp (disch := first | omega | assumption) only [↓PB, ↓reduceIte, QB, QC, QD, QE, Nat.reduceAdd, Nat.reduceMul, Nat.reduceEqDiff, Nat.reduceLT, Nat.reduceLeDiff, reduceCtorEq, *]))
  all_goals exact RetG.same ⟨by simp [t4, cmpTxn, *], rfl⟩

theorem k_r03_may (c : Int) : Pure prog 307 [.int c] (.bool (mayR c)) := by
  refine wp307 fun σ => ?_
  unfold c307
  simp -dsimp (disch := first | omega | assumption) only [↓PB, ↓reduceIte, QB, QC, QD, QE, Nat.reduceAdd, Nat.reduceMul, Nat.reduceEqDiff, Nat.reduceLT, Nat.reduceLeDiff, reduceCtorEq]
  repeat' (first
    | (with_reducible refine condD (fun _ => ?_) (fun _ => ?_)) <;> try (exfalso; omega)
    | (with_reducible refine condB (fun _ => ?_) (fun _ => ?_))
    | (with_reducible refine guardD (fun _ => ?_) (fun _ => ?_)) <;> try (exfalso; omega)
    | (with_reducible refine guardB (fun _ => ?_) (fun _ => ?_))
    | (with_reducible refine app_row (by assumption) src_lst (by simp only [List.length_map, List.length_append, List.length_cons, List.length_nil]; omega) (by simp only [List.length_map, List.length_append, List.length_cons, List.length_nil]; omega) (fun _ _ => ?_))
    | (simp -dsimp (disch := first | omega | assumption) only [↓PB, ↓reduceIte, QB, QC, QD, QE, Nat.reduceAdd, Nat.reduceMul, Nat.reduceEqDiff, Nat.reduceLT, Nat.reduceLeDiff, reduceCtorEq, *]))
  all_goals exact RetG.same ⟨by simp [t4, mayR, *] <;> omega, rfl⟩

theorem char_loop (s : ByteArray) (n : Nat) (c0 : Int) (hn : 2 ≤ n) (hn4 : n ≤ 4) (hs : n ≤ s.size) (hc : 0 ≤ c0) (hc1 : c0 < 64) (e : Env) (nv : Nat) (σ : Heap) (Q : IPost)
    (h0 : e 0 = .str s) (h4 : e 4 = .int c0) (h5 : e 5 = .int n) (h7 : e 7 = .int 1)
    (hr : charCont s (n - 1) 1 c0 = none → ∀ e' n', e' 2 = .int 0 → e' 3 = .int 0 → Q .ret e' n' σ)
    (hx : ∀ c, charCont s (n - 1) 1 c0 = some c → ∀ e' n', e' 4 = .int c → e' 5 = .int n → e' 6 = e 6 → Q (.exit 1) e' n' σ) : LoopK prog c308l0 Q e nv σ .mk .mk .mk .mk .mk := by
  refine loop_p n (fun i e => ∃ c : Int, e 7 = .int i ∧ e 4 = .int c ∧ 0 ≤ c ∧ (i = 1 ∧ c < 64 ∨ i = 2 ∧ c < 4096 ∨ i = 3 ∧ c < 262144 ∨ i = 4 ∧ c < 16777216) ∧ charCont s (n - 1) 1 c0 = charCont s (n - i) i c) 1 (by omega) ⟨c0, h7, h4, hc, by omega, rfl⟩ ?_
  rintro i e1 n1 hi ha ⟨c, g7, g4, gc, gd, hg⟩
  have g0 := ha 0 (by decide)
  have g5 := ha 5 (by decide)
  have g6 := ha 6 (by decide)
  rw [h0] at g0
  rw [h5] at g5
  have b1 := bAt_ge s i
  have b2 := bAt_lt s i
  unfold c308l0
  repeat' (first
    | (with_reducible refine condD (fun _ => ?_) (fun _ => ?_)) <;> try (exfalso; omega)
    | (with_reducible refine condB (fun _ => ?_) (fun _ => ?_))
    | (with_reducible refine guardD (fun _ => ?_) (fun _ => ?_)) <;> try (exfalso; omega)
    | (with_reducible refine guardB (fun _ => ?_) (fun _ => ?_))
    | (with_reducible refine app_row (by assumption) src_lst (by simp only [List.length_map, List.length_append, List.length_cons, List.length_nil]; omega) (by simp only [List.length_map, List.length_append, List.length_cons, List.length_nil]; omega) (fun _ _ => ?_))
    | (simp -dsimp (disch := first | omega | assumption) only [↓PB, ↓reduceIte, QB, QC, QD, QE, Nat.reduceAdd, Nat.reduceMul, Nat.reduceEqDiff, Nat.reduceLT, Nat.reduceLeDiff, reduceCtorEq, *]))
  · refine hr ?_ _ _ (by simp -dsimp (disch := first | omega | assumption) only [↓PB, ↓reduceIte, QB, QC, QD, QE, Nat.reduceAdd, Nat.reduceMul, Nat.reduceEqDiff, Nat.reduceLT, Nat.reduceLeDiff, reduceCtorEq, *]) (by simp -dsimp (disch := first | omega | assumption) only [↓PB, ↓reduceIte, QB, QC, QD, QE, Nat.reduceAdd, Nat.reduceMul, Nat.reduceEqDiff, Nat.reduceLT, Nat.reduceLeDiff, reduceCtorEq, *])
    rw [hg, show n - i = (n - (i + 1)) + 1 by omega, charCont, if_pos (by omega)]
  · refine hr ?_ _ _ (by simp -dsimp (disch := first | omega | assumption) only [↓PB, ↓reduceIte, QB, QC, QD, QE, Nat.reduceAdd, Nat.reduceMul, Nat.reduceEqDiff, Nat.reduceLT, Nat.reduceLeDiff, reduceCtorEq, *]) (by simp -dsimp (disch := first | omega | assumption) only [↓PB, ↓reduceIte, QB, QC, QD, QE, Nat.reduceAdd, Nat.reduceMul, Nat.reduceEqDiff, Nat.reduceLT, Nat.reduceLeDiff, reduceCtorEq, *])
    rw [hg, show n - i = (n - (i + 1)) + 1 by omega, charCont, if_pos (by omega)]
  · refine ⟨_, by simp, rfl, by omega, by omega, ?_⟩
    try rw [hg]
    rw [show n - i = (n - (i + 1)) + 1 by omega, charCont, if_neg (by omega)]
  · refine hx c ?_ _ _ (by simp -dsimp (disch := first | omega | assumption) only [↓PB, ↓reduceIte, QB, QC, QD, QE, Nat.reduceAdd, Nat.reduceMul, Nat.reduceEqDiff, Nat.reduceLT, Nat.reduceLeDiff, reduceCtorEq, *]) (by simp -dsimp (disch := first | omega | assumption) only [↓PB, ↓reduceIte, QB, QC, QD, QE, Nat.reduceAdd, Nat.reduceMul, Nat.reduceEqDiff, Nat.reduceLT, Nat.reduceLeDiff, reduceCtorEq, *]) (by simp -dsimp (disch := first | omega | assumption) only [↓PB, ↓reduceIte, QB, QC, QD, QE, Nat.reduceAdd, Nat.reduceMul, Nat.reduceEqDiff, Nat.reduceLT, Nat.reduceLeDiff, reduceCtorEq, *])
    rw [hg, show n - i = 0 by omega, charCont]

theorem k_r03_Char (s : ByteArray) (hs : s.size ≤ 9223372036854775807) : Pure prog 308 [.str s] (.tup [.int (charR s).1, .int (charR s).2]) := by
  refine wp308 fun σ => ?_
  unfold c308
  simp -dsimp (disch := first | omega | assumption) only [↓PB, ↓reduceIte, QB, QC, QD, QE, Nat.reduceAdd, Nat.reduceMul, Nat.reduceEqDiff, Nat.reduceLT, Nat.reduceLeDiff, reduceCtorEq]
  have b1 := bAt_ge s 0
  have b2 := bAt_lt s 0
  repeat' (first
    | (with_reducible refine condD (fun _ => ?_) (fun _ => ?_)) <;> try (exfalso; omega)
    | (with_reducible refine condB (fun _ => ?_) (fun _ => ?_))
    | (with_reducible refine guardD (fun _ => ?_) (fun _ => ?_)) <;> try (exfalso; omega)
    | (with_reducible refine guardB (fun _ => ?_) (fun _ => ?_))
    | (with_reducible refine app_row (by assumption) src_lst (by simp only [List.length_map, List.length_append, List.length_cons, List.length_nil]; omega) (by simp only [List.length_map, List.length_append, List.length_cons, List.length_nil]; omega) (fun _ _ => ?_))
    | (simp -dsimp (disch := first | omega | assumption) only [↓PB, ↓reduceIte, QB, QC, QD, QE, Nat.reduceAdd, Nat.reduceMul, Nat.reduceEqDiff, Nat.reduceLT, Nat.reduceLeDiff, reduceCtorEq, *]))
  · exact RetG.same ⟨by simp [t5, charR, *], rfl⟩
  · exact RetG.same ⟨by simp [t5, charR, *], rfl⟩
  · have hh : charHead (bAt s 0) = some (2, 128, bAt s 0 - 192) := by unfold charHead; rw [if_neg (by omega), if_pos (by omega)]
    exact RetG.same ⟨by simp [t5, charR, *], rfl⟩
  · have hh : charHead (bAt s 0) = some (2, 128, bAt s 0 - 192) := by unfold charHead; rw [if_neg (by omega), if_pos (by omega)]
    refine char_loop s 2 (bAt s 0 - 192) (by omega) (by omega) (by omega) (by omega) (by omega) _ _ _ _ (by simp -dsimp (disch := first | omega | assumption) only [↓PB, ↓reduceIte, QB, QC, QD, QE, Nat.reduceAdd, Nat.reduceMul, Nat.reduceEqDiff, Nat.reduceLT, Nat.reduceLeDiff, reduceCtorEq, *]) (by simp -dsimp (disch := first | omega | assumption) only [↓PB, ↓reduceIte, QB, QC, QD, QE, Nat.reduceAdd, Nat.reduceMul, Nat.reduceEqDiff, Nat.reduceLT, Nat.reduceLeDiff, reduceCtorEq, *]) (by simp -dsimp (disch := first | omega | assumption) only [↓PB, ↓reduceIte, QB, QC, QD, QE, Nat.reduceAdd, Nat.reduceMul, Nat.reduceEqDiff, Nat.reduceLT, Nat.reduceLeDiff, reduceCtorEq, *] <;> rfl) (by simp -dsimp (disch := first | omega | assumption) only [↓PB, ↓reduceIte, QB, QC, QD, QE, Nat.reduceAdd, Nat.reduceMul, Nat.reduceEqDiff, Nat.reduceLT, Nat.reduceLeDiff, reduceCtorEq, *]) ?_ ?_
    · intro hcc e' n' g2 g3
      repeat' (first
        | (with_reducible refine condD (fun _ => ?_) (fun _ => ?_)) <;> try (exfalso; omega)
        | (with_reducible refine condB (fun _ => ?_) (fun _ => ?_))
        | (with_reducible refine guardD (fun _ => ?_) (fun _ => ?_)) <;> try (exfalso; omega)
        | (with_reducible refine guardB (fun _ => ?_) (fun _ => ?_))
        | (with_reducible refine app_row (by assumption) src_lst (by simp only [List.length_map, List.length_append, List.length_cons, List.length_nil]; omega) (by simp only [List.length_map, List.length_append, List.length_cons, List.length_nil]; omega) (fun _ _ => ?_))
        | (simp -dsimp (disch := first | omega | assumption) only [↓PB, ↓reduceIte, QB, QC, QD, QE, Nat.reduceAdd, Nat.reduceMul, Nat.reduceEqDiff, Nat.reduceLT, Nat.reduceLeDiff, reduceCtorEq, *]))
      exact RetG.same ⟨by simp [t5, charR, *], rfl⟩
    · intro c hcc e' n' g4 g5 g6
      simp -dsimp (disch := first | omega | assumption) only [↓PB, ↓reduceIte, QB, QC, QD, QE, Nat.reduceAdd, Nat.reduceMul, Nat.reduceEqDiff, Nat.reduceLT, Nat.reduceLeDiff, reduceCtorEq, *] at g6
      repeat' (first
        | (with_reducible refine condD (fun _ => ?_) (fun _ => ?_)) <;> try (exfalso; omega)
        | (with_reducible refine condB (fun _ => ?_) (fun _ => ?_))
        | (with_reducible refine guardD (fun _ => ?_) (fun _ => ?_)) <;> try (exfalso; omega)
        | (with_reducible refine guardB (fun _ => ?_) (fun _ => ?_))
        | (with_reducible refine app_row (by assumption) src_lst (by simp only [List.length_map, List.length_append, List.length_cons, List.length_nil]; omega) (by simp only [List.length_map, List.length_append, List.length_cons, List.length_nil]; omega) (fun _ _ => ?_))
        | (simp -dsimp (disch := first | omega | assumption) only [↓PB, ↓reduceIte, QB, QC, QD, QE, Nat.reduceAdd, Nat.reduceMul, Nat.reduceEqDiff, Nat.reduceLT, Nat.reduceLeDiff, reduceCtorEq, *]))
      all_goals exact RetG.same ⟨by simp [t5, charR, *] <;> omega, rfl⟩
  · have hh : charHead (bAt s 0) = some (3, 2048, bAt s 0 - 224) := by unfold charHead; rw [if_neg (by omega), if_neg (by omega), if_pos (by omega)]
    exact RetG.same ⟨by simp [t5, charR, *], rfl⟩
  · have hh : charHead (bAt s 0) = some (3, 2048, bAt s 0 - 224) := by unfold charHead; rw [if_neg (by omega), if_neg (by omega), if_pos (by omega)]
    refine char_loop s 3 (bAt s 0 - 224) (by omega) (by omega) (by omega) (by omega) (by omega) _ _ _ _ (by simp -dsimp (disch := first | omega | assumption) only [↓PB, ↓reduceIte, QB, QC, QD, QE, Nat.reduceAdd, Nat.reduceMul, Nat.reduceEqDiff, Nat.reduceLT, Nat.reduceLeDiff, reduceCtorEq, *]) (by simp -dsimp (disch := first | omega | assumption) only [↓PB, ↓reduceIte, QB, QC, QD, QE, Nat.reduceAdd, Nat.reduceMul, Nat.reduceEqDiff, Nat.reduceLT, Nat.reduceLeDiff, reduceCtorEq, *]) (by simp -dsimp (disch := first | omega | assumption) only [↓PB, ↓reduceIte, QB, QC, QD, QE, Nat.reduceAdd, Nat.reduceMul, Nat.reduceEqDiff, Nat.reduceLT, Nat.reduceLeDiff, reduceCtorEq, *] <;> rfl) (by simp -dsimp (disch := first | omega | assumption) only [↓PB, ↓reduceIte, QB, QC, QD, QE, Nat.reduceAdd, Nat.reduceMul, Nat.reduceEqDiff, Nat.reduceLT, Nat.reduceLeDiff, reduceCtorEq, *]) ?_ ?_
    · intro hcc e' n' g2 g3
      repeat' (first
        | (with_reducible refine condD (fun _ => ?_) (fun _ => ?_)) <;> try (exfalso; omega)
        | (with_reducible refine condB (fun _ => ?_) (fun _ => ?_))
        | (with_reducible refine guardD (fun _ => ?_) (fun _ => ?_)) <;> try (exfalso; omega)
        | (with_reducible refine guardB (fun _ => ?_) (fun _ => ?_))
        | (with_reducible refine app_row (by assumption) src_lst (by simp only [List.length_map, List.length_append, List.length_cons, List.length_nil]; omega) (by simp only [List.length_map, List.length_append, List.length_cons, List.length_nil]; omega) (fun _ _ => ?_))
        | (simp -dsimp (disch := first | omega | assumption) only [↓PB, ↓reduceIte, QB, QC, QD, QE, Nat.reduceAdd, Nat.reduceMul, Nat.reduceEqDiff, Nat.reduceLT, Nat.reduceLeDiff, reduceCtorEq, *]))
      exact RetG.same ⟨by simp [t5, charR, *], rfl⟩
    · intro c hcc e' n' g4 g5 g6
      simp -dsimp (disch := first | omega | assumption) only [↓PB, ↓reduceIte, QB, QC, QD, QE, Nat.reduceAdd, Nat.reduceMul, Nat.reduceEqDiff, Nat.reduceLT, Nat.reduceLeDiff, reduceCtorEq, *] at g6
      repeat' (first
        | (with_reducible refine condD (fun _ => ?_) (fun _ => ?_)) <;> try (exfalso; omega)
        | (with_reducible refine condB (fun _ => ?_) (fun _ => ?_))
        | (with_reducible refine guardD (fun _ => ?_) (fun _ => ?_)) <;> try (exfalso; omega)
        | (with_reducible refine guardB (fun _ => ?_) (fun _ => ?_))
        | (with_reducible refine app_row (by assumption) src_lst (by simp only [List.length_map, List.length_append, List.length_cons, List.length_nil]; omega) (by simp only [List.length_map, List.length_append, List.length_cons, List.length_nil]; omega) (fun _ _ => ?_))
        | (simp -dsimp (disch := first | omega | assumption) only [↓PB, ↓reduceIte, QB, QC, QD, QE, Nat.reduceAdd, Nat.reduceMul, Nat.reduceEqDiff, Nat.reduceLT, Nat.reduceLeDiff, reduceCtorEq, *]))
      all_goals exact RetG.same ⟨by simp [t5, charR, *] <;> omega, rfl⟩
  · have hh : charHead (bAt s 0) = some (4, 65536, bAt s 0 - 240) := by unfold charHead; rw [if_neg (by omega), if_neg (by omega), if_neg (by omega), if_pos (by omega)]
    exact RetG.same ⟨by simp [t5, charR, *], rfl⟩
  · have hh : charHead (bAt s 0) = some (4, 65536, bAt s 0 - 240) := by unfold charHead; rw [if_neg (by omega), if_neg (by omega), if_neg (by omega), if_pos (by omega)]
    refine char_loop s 4 (bAt s 0 - 240) (by omega) (by omega) (by omega) (by omega) (by omega) _ _ _ _ (by simp -dsimp (disch := first | omega | assumption) only [↓PB, ↓reduceIte, QB, QC, QD, QE, Nat.reduceAdd, Nat.reduceMul, Nat.reduceEqDiff, Nat.reduceLT, Nat.reduceLeDiff, reduceCtorEq, *]) (by simp -dsimp (disch := first | omega | assumption) only [↓PB, ↓reduceIte, QB, QC, QD, QE, Nat.reduceAdd, Nat.reduceMul, Nat.reduceEqDiff, Nat.reduceLT, Nat.reduceLeDiff, reduceCtorEq, *]) (by simp -dsimp (disch := first | omega | assumption) only [↓PB, ↓reduceIte, QB, QC, QD, QE, Nat.reduceAdd, Nat.reduceMul, Nat.reduceEqDiff, Nat.reduceLT, Nat.reduceLeDiff, reduceCtorEq, *] <;> rfl) (by simp -dsimp (disch := first | omega | assumption) only [↓PB, ↓reduceIte, QB, QC, QD, QE, Nat.reduceAdd, Nat.reduceMul, Nat.reduceEqDiff, Nat.reduceLT, Nat.reduceLeDiff, reduceCtorEq, *]) ?_ ?_
    · intro hcc e' n' g2 g3
      repeat' (first
        | (with_reducible refine condD (fun _ => ?_) (fun _ => ?_)) <;> try (exfalso; omega)
        | (with_reducible refine condB (fun _ => ?_) (fun _ => ?_))
        | (with_reducible refine guardD (fun _ => ?_) (fun _ => ?_)) <;> try (exfalso; omega)
        | (with_reducible refine guardB (fun _ => ?_) (fun _ => ?_))
        | (with_reducible refine app_row (by assumption) src_lst (by simp only [List.length_map, List.length_append, List.length_cons, List.length_nil]; omega) (by simp only [List.length_map, List.length_append, List.length_cons, List.length_nil]; omega) (fun _ _ => ?_))
        | (simp -dsimp (disch := first | omega | assumption) only [↓PB, ↓reduceIte, QB, QC, QD, QE, Nat.reduceAdd, Nat.reduceMul, Nat.reduceEqDiff, Nat.reduceLT, Nat.reduceLeDiff, reduceCtorEq, *]))
      exact RetG.same ⟨by simp [t5, charR, *], rfl⟩
    · intro c hcc e' n' g4 g5 g6
      simp -dsimp (disch := first | omega | assumption) only [↓PB, ↓reduceIte, QB, QC, QD, QE, Nat.reduceAdd, Nat.reduceMul, Nat.reduceEqDiff, Nat.reduceLT, Nat.reduceLeDiff, reduceCtorEq, *] at g6
      repeat' (first
        | (with_reducible refine condD (fun _ => ?_) (fun _ => ?_)) <;> try (exfalso; omega)
        | (with_reducible refine condB (fun _ => ?_) (fun _ => ?_))
        | (with_reducible refine guardD (fun _ => ?_) (fun _ => ?_)) <;> try (exfalso; omega)
        | (with_reducible refine guardB (fun _ => ?_) (fun _ => ?_))
        | (with_reducible refine app_row (by assumption) src_lst (by simp only [List.length_map, List.length_append, List.length_cons, List.length_nil]; omega) (by simp only [List.length_map, List.length_append, List.length_cons, List.length_nil]; omega) (fun _ _ => ?_))
        | (simp -dsimp (disch := first | omega | assumption) only [↓PB, ↓reduceIte, QB, QC, QD, QE, Nat.reduceAdd, Nat.reduceMul, Nat.reduceEqDiff, Nat.reduceLT, Nat.reduceLeDiff, reduceCtorEq, *]))
      all_goals exact RetG.same ⟨by simp [t5, charR, *] <;> omega, rfl⟩
  all_goals
    have hh : charHead (bAt s 0) = none := by unfold charHead; rw [if_neg (by omega), if_neg (by omega), if_neg (by omega), if_neg (by omega)]
    exact RetG.same ⟨by simp [t5, charR, *], rfl⟩
end Go.Av

namespace Go.Av
open Go.Proofs.Tryz
set_option maxRecDepth 100000
set_option linter.unusedSimpArgs false
set_option linter.unusedVariables false

/- r03.Right -/
def c252l0 : ICode :=
  .seq (.seq (.region 4 [⟨(some 11), .mov (.t 5), none⟩,
    ⟨(some 12), .mov (.t 3), none⟩,
    ⟨(some 13), .len (.t 12), none⟩,
    ⟨(some 14), .bin .lss (.t 11) (.t 13), none⟩]) <|
  .cond (.t 14) (.skip) (.exit 0)) <|
  .seq (.block 1 (.seq (.region 6 [⟨(some 17), .mov (.t 3), none⟩,
    ⟨(some 18), .mov (.t 5), none⟩,
    ⟨(some 19), .iaddrS 1 (.t 17) (.t 18), none⟩,
    ⟨(some 20), .load none 1 false (.t 19), none⟩,
    ⟨(some 21), .call (.c (.clo 307 [])) [(.t 20)], none⟩,
    ⟨(some 22), .un .not (.t 21), none⟩]) <|
  .cond (.t 22) (.seq (.region 1 [⟨(some 2), .mov (.c (.bool false)), none⟩]) <|
  .ret) (.skip))) <|
  .region 3 [⟨(some 15), .mov (.t 5), none⟩,
    ⟨(some 16), .bin .add (.t 15) (.c (.int 1)), none⟩,
    ⟨(some 5), .mov (.t 16), none⟩]
def c252 : ICode :=
  .seq (.region 1 [⟨(some 2), .mov (.c (.bool false)), none⟩]) <|
  .seq (.region 7 [⟨(some 7), .mov (.t 0), none⟩,
    ⟨(some 8), .call (.c (.clo 253 [])) [(.t 7)], none⟩,
    ⟨(some 6), .mov (.t 8), none⟩,
    ⟨(some 9), .ext 0 (.t 6), none⟩,
    ⟨(some 10), .ext 1 (.t 6), none⟩,
    ⟨(some 3), .mov (.t 9), none⟩,
    ⟨(some 4), .mov (.t 10), none⟩]) <|
  .seq (.seq (.region 1 [⟨(some 5), .mov (.c (.int 0)), none⟩]) <|
  .block 0 (.loop c252l0)) <|
  .seq (.region 12 [⟨(some 23), .mov (.t 4), none⟩,
    ⟨(some 24), .mov (.t 23), none⟩,
    ⟨(some 25), .mov (.t 3), (some (24, true))⟩,
    ⟨(some 26), .len (.t 25), (some (24, true))⟩,
    ⟨(some 27), .bin .geq (.t 26) (.c (.int 1)), (some (24, true))⟩,
    ⟨(some 28), .pick (.t 24) (.t 27) (.c (.bool false)), none⟩,
    ⟨(some 29), .mov (.t 28), none⟩,
    ⟨(some 30), .mov (.t 3), (some (29, true))⟩,
    ⟨(some 31), .len (.t 30), (some (29, true))⟩,
    ⟨(some 32), .bin .leq (.t 31) (.c (.int 24)), (some (29, true))⟩,
    ⟨(some 33), .pick (.t 29) (.t 32) (.c (.bool false)), none⟩,
    ⟨(some 2), .mov (.t 33), none⟩]) <|
  .ret
def ir252 : IFn := ⟨34, [], 1, [.tmp 2], c252⟩
theorem ok252 : compFn prog [] [] f252 = some ir252 := by kernel_rfl
theorem wp252 {a0 : AV} {r : AV} (H : ∀ σ, WpI prog c252 (retQ [.tmp 2] fun v s => v = r ∧ s = σ) (argE [a0]) 0 σ) : Pure prog 252 [a0] r := @pure_of_wp prog hm 252 f252 [] [] ir252 [a0] r func252 ok252 (Nat.le_of_ble_eq_true rfl) H
theorem wa252 {a0 : AV} {σ : Heap} {R : AV → Heap → Prop} (H : WpI prog c252 (retQ [.tmp 2] R) (argE [a0]) 0 σ) : CallsA prog 252 [a0] σ R := @callsA_of_wp prog [] hm 252 f252 [] ir252 [a0] σ R func252 ok252 (Nat.le_of_ble_eq_true rfl) H
/- r09.Right -/
def c190 : ICode :=
  .seq (.region 2 [⟨(some 1), .bbox 0 (.t 0), none⟩,
    ⟨(some 2), .mov (.c (.bool false)), none⟩]) <|
  .seq (.seq (.region 3 [⟨(some 5), .faddr (some 1) 0 (.b 1), none⟩,
    ⟨(some 6), .load (some 1) 1 false (.t 5), none⟩,
    ⟨(some 7), .bin .eql (.t 6) (.c (.int 1)), none⟩]) <|
  .cond (.t 7) (.seq (.region 14 [⟨(some 8), .faddr (some 1) 2 (.b 1), none⟩,
    ⟨(some 9), .load (some 1) 1 false (.t 8), none⟩,
    ⟨(some 10), .bin .eql (.t 9) (.c (.str ⟨#[]⟩)), none⟩,
    ⟨(some 11), .mov (.t 10), none⟩,
    ⟨(some 12), .faddr (some 1) 1 (.b 1), (some (11, true))⟩,
    ⟨(some 13), .load (some 1) 1 false (.t 12), (some (11, true))⟩,
    ⟨(some 14), .bin .geq (.t 13) (.c (.int (-2147483647))), (some (11, true))⟩,
    ⟨(some 15), .pick (.t 11) (.t 14) (.c (.bool false)), none⟩,
    ⟨(some 16), .mov (.t 15), none⟩,
    ⟨(some 17), .faddr (some 1) 1 (.b 1), (some (16, true))⟩,
    ⟨(some 18), .load (some 1) 1 false (.t 17), (some (16, true))⟩,
    ⟨(some 19), .bin .leq (.t 18) (.c (.int 2147483647)), (some (16, true))⟩,
    ⟨(some 20), .pick (.t 16) (.t 19) (.c (.bool false)), none⟩,
    ⟨(some 2), .mov (.t 20), none⟩]) <|
  .ret) (.skip)) <|
  .seq (.seq (.region 3 [⟨(some 21), .faddr (some 1) 0 (.b 1), none⟩,
    ⟨(some 22), .load (some 1) 1 false (.t 21), none⟩,
    ⟨(some 23), .bin .eql (.t 22) (.c (.int 2)), none⟩]) <|
  .cond (.t 23) (.seq (.region 8 [⟨(some 25), .faddr (some 1) 2 (.b 1), none⟩,
    ⟨(some 26), .load (some 1) 1 false (.t 25), none⟩,
    ⟨(some 27), .call (.c (.clo 253 [])) [(.t 26)], none⟩,
    ⟨(some 24), .mov (.t 27), none⟩,
    ⟨(some 28), .ext 0 (.t 24), none⟩,
    ⟨(some 29), .ext 1 (.t 24), none⟩,
    ⟨(some 3), .mov (.t 28), none⟩,
    ⟨(some 4), .mov (.t 29), none⟩]) <|
  .seq (.region 13 [⟨(some 30), .faddr (some 1) 1 (.b 1), none⟩,
    ⟨(some 31), .load (some 1) 1 false (.t 30), none⟩,
    ⟨(some 32), .bin .eql (.t 31) (.c (.int 0)), none⟩,
    ⟨(some 33), .mov (.t 32), none⟩,
    ⟨(some 34), .mov (.t 4), (some (33, true))⟩,
    ⟨(some 35), .pick (.t 33) (.t 34) (.c (.bool false)), none⟩,
    ⟨(some 36), .mov (.t 35), none⟩,
    ⟨(some 37), .faddr (some 1) 2 (.b 1), (some (36, true))⟩,
    ⟨(some 38), .load (some 1) 1 false (.t 37), (some (36, true))⟩,
    ⟨(some 39), .slen (.t 38), (some (36, true))⟩,
    ⟨(some 40), .bin .leq (.t 39) (.c (.int 64)), (some (36, true))⟩,
    ⟨(some 41), .pick (.t 36) (.t 40) (.c (.bool false)), none⟩,
    ⟨(some 2), .mov (.t 41), none⟩]) <|
  .ret) (.skip)) <|
  .seq (.region 19 [⟨(some 42), .faddr (some 1) 0 (.b 1), none⟩,
    ⟨(some 43), .load (some 1) 1 false (.t 42), none⟩,
    ⟨(some 44), .bin .eql (.t 43) (.c (.int 3)), none⟩,
    ⟨(some 45), .mov (.t 44), none⟩,
    ⟨(some 46), .faddr (some 1) 2 (.b 1), (some (45, true))⟩,
    ⟨(some 47), .load (some 1) 1 false (.t 46), (some (45, true))⟩,
    ⟨(some 48), .bin .eql (.t 47) (.c (.str ⟨#[]⟩)), (some (45, true))⟩,
    ⟨(some 49), .pick (.t 45) (.t 48) (.c (.bool false)), none⟩,
    ⟨(some 50), .mov (.t 49), none⟩,
    ⟨(some 51), .faddr (some 1) 1 (.b 1), (some (50, true))⟩,
    ⟨(some 52), .load (some 1) 1 false (.t 51), (some (50, true))⟩,
    ⟨(some 53), .bin .geq (.t 52) (.c (.int 0)), (some (50, true))⟩,
    ⟨(some 54), .pick (.t 50) (.t 53) (.c (.bool false)), none⟩,
    ⟨(some 55), .mov (.t 54), none⟩,
    ⟨(some 56), .faddr (some 1) 1 (.b 1), (some (55, true))⟩,
    ⟨(some 57), .load (some 1) 1 false (.t 56), (some (55, true))⟩,
    ⟨(some 58), .bin .leq (.t 57) (.c (.int 1)), (some (55, true))⟩,
    ⟨(some 59), .pick (.t 55) (.t 58) (.c (.bool false)), none⟩,
    ⟨(some 2), .mov (.t 59), none⟩]) <|
  .ret
def ir190 : IFn := ⟨60, [1], 1, [.tmp 2], c190⟩
theorem ok190 : compFn prog [1] [] f190 = some ir190 := by kernel_rfl
theorem wp190 {a0 : AV} {r : AV} (H : ∀ σ, WpI prog c190 (retQ [.tmp 2] fun v s => v = r ∧ s = σ) (argE [a0]) 0 σ) : Pure prog 190 [a0] r := @pure_of_wp prog hm 190 f190 [1] [] ir190 [a0] r func190 ok190 (Nat.le_of_ble_eq_true rfl) H
theorem wa190 {a0 : AV} {σ : Heap} {R : AV → Heap → Prop} (H : WpI prog c190 (retQ [.tmp 2] R) (argE [a0]) 0 σ) : CallsA prog 190 [a0] σ R := @callsA_of_wp prog [1] hm 190 f190 [] ir190 [a0] σ R func190 ok190 (Nat.le_of_ble_eq_true rfl) H


def encRunes (s : ByteArray) : AV := .tup [encL 1 AV.int ((runes s).getD []), .bool (runes s).isSome]

theorem runesR_done {s : ByteArray} {f i : Nat} {l : List Int} (h : ¬ i < s.size) : runesR s f i l = some l := by
  cases f with
  | zero => rfl
  | succ f => rw [runesR, if_neg h]

theorem k_r03_Runes (s : ByteArray) (hs : s.size ≤ 1000000) : Pure prog 253 [.str s] (encRunes s) := by
  refine wp253 fun σ => ?_
  unfold c253
  simp -dsimp (disch := first | omega | assumption) only [↓PB, ↓reduceIte, QB, QC, QD, QE, Nat.reduceAdd, Nat.reduceMul, Nat.reduceEqDiff, Nat.reduceLT, Nat.reduceLeDiff, reduceCtorEq]
  refine loop_am 4 1 (fun f es e => ∃ (i : Nat) (l : List Int), e 5 = .int i ∧ es = l.map AV.int ∧ s.size + 1 ≤ i + f ∧ i ≤ s.size ∧ runes s = runesR s f i l ∧ l.length ≤ i) (s.size + 1) (by simp -dsimp (disch := first | omega | assumption) only [↓PB, ↓reduceIte, QB, QC, QD, QE, Nat.reduceAdd, Nat.reduceMul, Nat.reduceEqDiff, Nat.reduceLT, Nat.reduceLeDiff, reduceCtorEq, *]) (by decide) (fun v => ⟨0, [], by simp -dsimp (disch := first | omega | assumption) only [↓PB, ↓reduceIte, QB, QC, QD, QE, Nat.reduceAdd, Nat.reduceMul, Nat.reduceEqDiff, Nat.reduceLT, Nat.reduceLeDiff, reduceCtorEq, *] <;> rfl, rfl, by omega, by omega, rfl, by simp⟩) ?_
  rintro f e n c es hc ha h4 ⟨i, l, h5, rfl, hf, hf1, hg, hl⟩
  have h0 := ha 0 (by decide)
  simp -dsimp (disch := first | omega | assumption) only [↓PB, ↓reduceIte, QB, QC, QD, QE, Nat.reduceAdd, Nat.reduceMul, Nat.reduceEqDiff, Nat.reduceLT, Nat.reduceLeDiff, reduceCtorEq, *] at h0
  unfold c253l0
  obtain ⟨f, rfl⟩ : ∃ k, f = k + 1 := ⟨f - 1, by omega⟩
  have hz : (s.extract i s.size).size = s.size - i := by simp
  have hb := charR_bd (s.extract i s.size)
  rw [runesR] at hg
  repeat' (first
    | (with_reducible refine CallG.pure (k_r03_Char _ (by omega)) ?_)
    | (with_reducible refine CallQ.pure (k_r03_Char _ (by omega)) ?_)
    | (with_reducible refine condD (fun _ => ?_) (fun _ => ?_)) <;> try (exfalso; omega)
    | (with_reducible refine condB (fun _ => ?_) (fun _ => ?_))
    | (with_reducible refine guardD (fun _ => ?_) (fun _ => ?_)) <;> try (exfalso; omega)
    | (with_reducible refine guardB (fun _ => ?_) (fun _ => ?_))
    | (with_reducible refine app_row (by assumption) src_lst (by simp only [List.length_map, List.length_append, List.length_cons, List.length_nil]; omega) (by simp only [List.length_map, List.length_append, List.length_cons, List.length_nil]; omega) (fun _ _ => ?_))
    | (simp -dsimp (disch := first | omega | assumption) only [↓PB, ↓reduceIte, QB, QC, QD, QE, Nat.reduceAdd, Nat.reduceMul, Nat.reduceEqDiff, Nat.reduceLT, Nat.reduceLeDiff, reduceCtorEq, *]))
  · rw [if_pos (by assumption), if_pos (by assumption)] at hg
    exact RetG.drop hc (RetG.le (.cons (.nil 1) (.one (.refl _))) ⟨by simp only [t5, encRunes, hg]; rfl, rfl⟩)
  · rw [if_pos (by assumption), if_neg (by assumption)] at hg
    exact ⟨f, _, _, by omega, by assumption, rfl, rfl, i + (charR (s.extract i s.size)).2.toNat, l ++ [(charR (s.extract i s.size)).1], by simp; omega, by simp, by omega, by omega, rfl, by simp; omega⟩
  · rw [if_neg (by assumption)] at hg
    exact RetG.frz hc (l1 := [.lst 1 (l.map AV.int), .bool true]) (by rw [List.map_cons, frz_row]; simp [frz]) (.refl _) ⟨by simp only [t5, encRunes, hg]; rfl, rfl⟩

theorem k_r03_Right (s : ByteArray) (hs : s.size ≤ 1000000) : Pure prog 252 [.str s] (.bool (nameRight s)) := by
  refine wp252 fun σ => ?_
  unfold c252
  simp -dsimp (disch := first | omega | assumption) only [↓PB, ↓reduceIte, QB, QC, QD, QE, Nat.reduceAdd, Nat.reduceMul, Nat.reduceEqDiff, Nat.reduceLT, Nat.reduceLeDiff, reduceCtorEq]
  have hn : nameRight s = (((runes s).getD []).all mayR && (decide (1 ≤ ((runes s).getD []).length) && decide (((runes s).getD []).length ≤ 24) && (runes s).isSome)) := by
    unfold nameRight
    cases runes s with
    | none => rfl
    | some l => simp [Bool.and_assoc]
  repeat' (first
    | (with_reducible refine CallG.pure (k_r03_Runes s hs) ?_)
    | (with_reducible refine CallQ.pure (k_r03_Runes s hs) ?_)
    | (with_reducible refine condD (fun _ => ?_) (fun _ => ?_)) <;> try (exfalso; omega)
    | (with_reducible refine condB (fun _ => ?_) (fun _ => ?_))
    | (with_reducible refine guardD (fun _ => ?_) (fun _ => ?_)) <;> try (exfalso; omega)
    | (with_reducible refine guardB (fun _ => ?_) (fun _ => ?_))
    | (with_reducible refine app_row (by assumption) src_lst (by simp only [List.length_map, List.length_append, List.length_cons, List.length_nil]; omega) (by simp only [List.length_map, List.length_append, List.length_cons, List.length_nil]; omega) (fun _ _ => ?_))
    | (simp -dsimp (disch := first | omega | assumption) only [↓PB, ↓reduceIte, QB, QC, QD, QE, Nat.reduceAdd, Nat.reduceMul, Nat.reduceEqDiff, Nat.reduceLT, Nat.reduceLeDiff, reduceCtorEq, encRunes, *]))
  have hl := runes_len s
  generalize runes s = o at hn hl ⊢
  refine loop_p (o.getD []).length (fun i e => e 5 = .int i ∧ (o.getD []).all mayR = ((o.getD []).drop i).all mayR) 0 (by omega) ⟨by simp -dsimp (disch := first | omega | assumption) only [↓PB, ↓reduceIte, QB, QC, QD, QE, Nat.reduceAdd, Nat.reduceMul, Nat.reduceEqDiff, Nat.reduceLT, Nat.reduceLeDiff, reduceCtorEq, *] <;> rfl, by simp⟩ ?_
  rintro i e n hi ha ⟨h5, hg⟩
  have h3 := ha 3 (by decide)
  have h4 := ha 4 (by decide)
  simp -dsimp (disch := first | omega | assumption) only [↓PB, ↓reduceIte, QB, QC, QD, QE, Nat.reduceAdd, Nat.reduceMul, Nat.reduceEqDiff, Nat.reduceLT, Nat.reduceLeDiff, reduceCtorEq, *] at h3 h4
  clear ha
  unfold c252l0
  repeat' (first
    | (with_reducible refine CallG.pure (k_r03_may _) ?_)
    | (with_reducible refine CallQ.pure (k_r03_may _) ?_)
    | (with_reducible refine condD (fun _ => ?_) (fun _ => ?_)) <;> try (exfalso; omega)
    | (with_reducible refine condB (fun _ => ?_) (fun _ => ?_))
    | (with_reducible refine guardD (fun _ => ?_) (fun _ => ?_)) <;> try (exfalso; omega)
    | (with_reducible refine guardB (fun _ => ?_) (fun _ => ?_))
    | (with_reducible refine app_row (by assumption) src_lst (by simp only [List.length_map, List.length_append, List.length_cons, List.length_nil]; omega) (by simp only [List.length_map, List.length_append, List.length_cons, List.length_nil]; omega) (fun _ _ => ?_))
    | (simp -dsimp (disch := first | omega | assumption) only [↓PB, ↓reduceIte, QB, QC, QD, QE, Nat.reduceAdd, Nat.reduceMul, Nat.reduceEqDiff, Nat.reduceLT, Nat.reduceLeDiff, reduceCtorEq, *]))
  · exact ⟨by simp, by rw [all_step (by assumption)]; simp [*]⟩
  · exact RetG.same ⟨by rw [t4, hn, hg, all_step (by assumption)]; simp [*], rfl⟩
  all_goals exact RetG.same ⟨by rw [t4, hn, hg, all_end (by assumption)]; simp [*], rfl⟩

theorem k_r09_Right (v : Val) (hs : v.S.size ≤ 1000000) : Pure prog 190 [encVal v] (.bool (valRight v)) := by
  refine wp190 fun σ => ?_
  unfold c190
  simp -dsimp (disch := first | omega | assumption) only [↓PB, ↓reduceIte, QB, QC, QD, QE, Nat.reduceAdd, Nat.reduceMul, Nat.reduceEqDiff, Nat.reduceLT, Nat.reduceLeDiff, reduceCtorEq]
  repeat' (first
    | (with_reducible refine CallG.pure (k_r03_Runes _ hs) ?_)
    | (with_reducible refine CallQ.pure (k_r03_Runes _ hs) ?_)
    | (with_reducible refine condD (fun _ => ?_) (fun _ => ?_)) <;> try (exfalso; omega)
    | (with_reducible refine condB (fun _ => ?_) (fun _ => ?_))
    | (with_reducible refine guardD (fun _ => ?_) (fun _ => ?_)) <;> try (exfalso; omega)
    | (with_reducible refine guardB (fun _ => ?_) (fun _ => ?_))
    | (with_reducible refine app_row (by assumption) src_lst (by simp only [List.length_map, List.length_append, List.length_cons, List.length_nil]; omega) (by simp only [List.length_map, List.length_append, List.length_cons, List.length_nil]; omega) (fun _ _ => ?_))
    | (simp -dsimp (disch := first | omega | assumption) only [↓PB, ↓reduceIte, QB, QC, QD, QE, Nat.reduceAdd, Nat.reduceMul, Nat.reduceEqDiff, Nat.reduceLT, Nat.reduceLeDiff, reduceCtorEq, encRunes, *]))
  all_goals exact RetG.same ⟨by simp [t4, valRight, emp, *], rfl⟩
end Go.Av

namespace Go.Av
open Go.Proofs.Tryz
set_option maxRecDepth 100000
set_option linter.unusedSimpArgs false
set_option linter.unusedVariables false

/- r10.Check -/
def c189l0 : ICode :=
  .seq (.seq (.region 4 [⟨(some 10), .mov (.t 3), none⟩,
    ⟨(some 11), .mov (.t 0), none⟩,
    ⟨(some 12), .len (.t 11), none⟩,
    ⟨(some 13), .bin .lss (.t 10) (.t 12), none⟩]) <|
  .cond (.t 13) (.skip) (.exit 0)) <|
  .seq (.block 1 (.seq (.region 6 [⟨(some 16), .mov (.t 0), none⟩,
    ⟨(some 17), .mov (.t 3), none⟩,
    ⟨(some 18), .iaddrS 1 (.t 16) (.t 17), none⟩,
    ⟨(some 19), .load none 1 false (.t 18), none⟩,
    ⟨(some 20), .call (.c (.clo 252 [])) [(.t 19)], none⟩,
    ⟨(some 21), .un .not (.t 20), none⟩]) <|
  .cond (.t 21) (.seq (.region 1 [⟨(some 2), .mov (.c (.int 8)), none⟩]) <|
  .ret) (.skip))) <|
  .region 3 [⟨(some 14), .mov (.t 3), none⟩,
    ⟨(some 15), .bin .add (.t 14) (.c (.int 1)), none⟩,
    ⟨(some 3), .mov (.t 15), none⟩]
def c189 : ICode :=
  .seq (.region 1 [⟨(some 2), .mov (.c (.int 0)), none⟩]) <|
  .seq (.seq (.region 3 [⟨(some 4), .mov (.t 0), none⟩,
    ⟨(some 5), .len (.t 4), none⟩,
    ⟨(some 6), .bin .eql (.t 5) (.c (.int 0)), none⟩]) <|
  .cond (.t 6) (.seq (.region 1 [⟨(some 2), .mov (.c (.int 8)), none⟩]) <|
  .ret) (.skip)) <|
  .seq (.seq (.region 3 [⟨(some 7), .mov (.t 0), none⟩,
    ⟨(some 8), .len (.t 7), none⟩,
    ⟨(some 9), .bin .gtr (.t 8) (.c (.int 8)), none⟩]) <|
  .cond (.t 9) (.seq (.region 1 [⟨(some 2), .mov (.c (.int 9)), none⟩]) <|
  .ret) (.skip)) <|
  .seq (.seq (.region 1 [⟨(some 3), .mov (.c (.int 0)), none⟩]) <|
  .block 0 (.loop c189l0)) <|
  .seq (.region 1 [⟨(some 2), .mov (.c (.int 0)), none⟩]) <|
  .ret
def ir189 : IFn := ⟨22, [], 1, [.tmp 2], c189⟩
theorem ok189 : compFn prog [] [] f189 = some ir189 := by kernel_rfl
theorem wp189 {a0 : AV} {r : AV} (H : ∀ σ, WpI prog c189 (retQ [.tmp 2] fun v s => v = r ∧ s = σ) (argE [a0]) 0 σ) : Pure prog 189 [a0] r := @pure_of_wp prog hm 189 f189 [] [] ir189 [a0] r func189 ok189 (Nat.le_of_ble_eq_true rfl) H
theorem wa189 {a0 : AV} {σ : Heap} {R : AV → Heap → Prop} (H : WpI prog c189 (retQ [.tmp 2] R) (argE [a0]) 0 σ) : CallsA prog 189 [a0] σ R := @callsA_of_wp prog [] hm 189 f189 [] ir189 [a0] σ R func189 ok189 (Nat.le_of_ble_eq_true rfl) H
/- r11.Check -/
def c97 : ICode :=
  .seq (.region 2 [⟨(some 1), .bbox 0 (.t 0), none⟩,
    ⟨(some 2), .mov (.c (.int 0)), none⟩]) <|
  .seq (.seq (.region 8 [⟨(some 5), .faddr (some 1) 0 (.b 1), none⟩,
    ⟨(some 6), .load (some 1) 1 false (.t 5), none⟩,
    ⟨(some 7), .bin .lss (.t 6) (.c (.int 1)), none⟩,
    ⟨(some 8), .mov (.t 7), none⟩,
    ⟨(some 9), .faddr (some 1) 0 (.b 1), (some (8, false))⟩,
    ⟨(some 10), .load (some 1) 1 false (.t 9), (some (8, false))⟩,
    ⟨(some 11), .bin .gtr (.t 10) (.c (.int 5)), (some (8, false))⟩,
    ⟨(some 12), .pick (.t 8) (.c (.bool true)) (.t 11), none⟩]) <|
  .cond (.t 12) (.seq (.region 1 [⟨(some 2), .mov (.c (.int 18)), none⟩]) <|
  .ret) (.skip)) <|
  .seq (.region 4 [⟨(some 13), .faddr (some 1) 1 (.b 1), none⟩,
    ⟨(some 14), .load (some 1) 1 false (.t 13), none⟩,
    ⟨(some 15), .call (.c (.clo 189 [])) [(.t 14)], none⟩,
    ⟨(some 3), .mov (.t 15), none⟩]) <|
  .seq (.seq (.region 2 [⟨(some 16), .mov (.t 3), none⟩,
    ⟨(some 17), .bin .neq (.t 16) (.c (.int 0)), none⟩]) <|
  .cond (.t 17) (.seq (.region 2 [⟨(some 18), .mov (.t 3), none⟩,
    ⟨(some 2), .mov (.t 18), none⟩]) <|
  .ret) (.skip)) <|
  .seq (.region 3 [⟨(some 19), .build (.agg [(.int 0), (.int 0), (.str ⟨#[]⟩)]) [], none⟩,
    ⟨(some 4), .nbox 1 (.agg [(.int 0), (.int 0), (.str ⟨#[]⟩)]), none⟩,
    ⟨none, .store (some 4) 3 (.b 4) (.t 19), none⟩]) <|
  .seq (.seq (.region 14 [⟨(some 20), .faddr (some 1) 0 (.b 1), none⟩,
    ⟨(some 21), .load (some 1) 1 false (.t 20), none⟩,
    ⟨(some 22), .bin .eql (.t 21) (.c (.int 3)), none⟩,
    ⟨(some 23), .mov (.t 22), none⟩,
    ⟨(some 24), .faddr (some 1) 0 (.b 1), (some (23, false))⟩,
    ⟨(some 25), .load (some 1) 1 false (.t 24), (some (23, false))⟩,
    ⟨(some 26), .bin .eql (.t 25) (.c (.int 5)), (some (23, false))⟩,
    ⟨(some 27), .pick (.t 23) (.c (.bool true)) (.t 26), none⟩,
    ⟨(some 28), .mov (.t 27), none⟩,
    ⟨(some 29), .faddr (some 1) 2 (.b 1), (some (28, true))⟩,
    ⟨(some 30), .load (some 1) 3 true (.t 29), (some (28, true))⟩,
    ⟨(some 31), .load (some 4) 3 true (.b 4), (some (28, true))⟩,
    ⟨(some 32), .eql true [.int .i64, .int .i64, .str] (.t 30) (.t 31), (some (28, true))⟩,
    ⟨(some 33), .pick (.t 28) (.t 32) (.c (.bool false)), none⟩]) <|
  .cond (.t 33) (.seq (.region 1 [⟨(some 2), .mov (.c (.int 2)), none⟩]) <|
  .ret) (.skip)) <|
  .seq (.seq (.region 14 [⟨(some 34), .faddr (some 1) 0 (.b 1), none⟩,
    ⟨(some 35), .load (some 1) 1 false (.t 34), none⟩,
    ⟨(some 36), .bin .neq (.t 35) (.c (.int 3)), none⟩,
    ⟨(some 37), .mov (.t 36), none⟩,
    ⟨(some 38), .faddr (some 1) 0 (.b 1), (some (37, true))⟩,
    ⟨(some 39), .load (some 1) 1 false (.t 38), (some (37, true))⟩,
    ⟨(some 40), .bin .neq (.t 39) (.c (.int 5)), (some (37, true))⟩,
    ⟨(some 41), .pick (.t 37) (.t 40) (.c (.bool false)), none⟩,
    ⟨(some 42), .mov (.t 41), none⟩,
    ⟨(some 43), .faddr (some 1) 2 (.b 1), (some (42, true))⟩,
    ⟨(some 44), .load (some 1) 3 true (.t 43), (some (42, true))⟩,
    ⟨(some 45), .call (.c (.clo 190 [])) [(.t 44)], (some (42, true))⟩,
    ⟨(some 46), .un .not (.t 45), (some (42, true))⟩,
    ⟨(some 47), .pick (.t 42) (.t 46) (.c (.bool false)), none⟩]) <|
  .cond (.t 47) (.seq (.region 1 [⟨(some 2), .mov (.c (.int 2)), none⟩]) <|
  .ret) (.skip)) <|
  .seq (.seq (.region 28 [⟨(some 48), .faddr (some 1) 0 (.b 1), none⟩,
    ⟨(some 49), .load (some 1) 1 false (.t 48), none⟩,
    ⟨(some 50), .bin .neq (.t 49) (.c (.int 3)), none⟩,
    ⟨(some 51), .mov (.t 50), none⟩,
    ⟨(some 52), .faddr (some 1) 5 (.b 1), (some (51, true))⟩,
    ⟨(some 53), .load (some 1) 1 false (.t 52), (some (51, true))⟩,
    ⟨(some 54), .bin .neq (.t 53) (.c (.int 0)), (some (51, true))⟩,
    ⟨(some 55), .pick (.t 51) (.t 54) (.c (.bool false)), none⟩,
    ⟨(some 56), .mov (.t 55), none⟩,
    ⟨(some 57), .faddr (some 1) 0 (.b 1), (some (56, false))⟩,
    ⟨(some 58), .load (some 1) 1 false (.t 57), (some (56, false))⟩,
    ⟨(some 59), .bin .eql (.t 58) (.c (.int 3)), (some (56, false))⟩,
    ⟨(some 60), .mov (.t 59), (some (56, false))⟩,
    ⟨(some 61), .faddr (some 1) 5 (.b 1), (some (60, true))⟩,
    ⟨(some 62), .load (some 1) 1 false (.t 61), (some (60, true))⟩,
    ⟨(some 63), .bin .eql (.t 62) (.c (.int 0)), (some (60, true))⟩,
    ⟨(some 64), .mov (.t 63), (some (60, true))⟩,
    ⟨(some 65), .faddr (some 1) 5 (.b 1), (some (64, false))⟩,
    ⟨(some 66), .load (some 1) 1 false (.t 65), (some (64, false))⟩,
    ⟨(some 67), .bin .gtr (.t 66) (.c (.int 2147483647)), (some (64, false))⟩,
    ⟨(some 68), .pick (.t 64) (.c (.bool true)) (.t 67), (some (60, true))⟩,
    ⟨(some 69), .mov (.t 68), (some (60, true))⟩,
    ⟨(some 70), .faddr (some 1) 5 (.b 1), (some (69, false))⟩,
    ⟨(some 71), .load (some 1) 1 false (.t 70), (some (69, false))⟩,
    ⟨(some 72), .bin .lss (.t 71) (.c (.int (-2147483647))), (some (69, false))⟩,
    ⟨(some 73), .pick (.t 69) (.c (.bool true)) (.t 72), (some (60, true))⟩,
    ⟨(some 74), .pick (.t 60) (.t 73) (.c (.bool false)), (some (56, false))⟩,
    ⟨(some 75), .pick (.t 56) (.c (.bool true)) (.t 74), none⟩]) <|
  .cond (.t 75) (.seq (.region 1 [⟨(some 2), .mov (.c (.int 2)), none⟩]) <|
  .ret) (.skip)) <|
  .seq (.seq (.region 14 [⟨(some 76), .faddr (some 1) 0 (.b 1), none⟩,
    ⟨(some 77), .load (some 1) 1 false (.t 76), none⟩,
    ⟨(some 78), .bin .eql (.t 77) (.c (.int 2)), none⟩,
    ⟨(some 79), .mov (.t 78), none⟩,
    ⟨(some 80), .faddr (some 1) 0 (.b 1), (some (79, false))⟩,
    ⟨(some 81), .load (some 1) 1 false (.t 80), (some (79, false))⟩,
    ⟨(some 82), .bin .eql (.t 81) (.c (.int 3)), (some (79, false))⟩,
    ⟨(some 83), .pick (.t 79) (.c (.bool true)) (.t 82), none⟩,
    ⟨(some 84), .mov (.t 83), none⟩,
    ⟨(some 85), .faddr (some 1) 6 (.b 1), (some (84, true))⟩,
    ⟨(some 86), .load (some 1) 1 false (.t 85), (some (84, true))⟩,
    ⟨(some 87), .len (.t 86), (some (84, true))⟩,
    ⟨(some 88), .bin .gtr (.t 87) (.c (.int 0)), (some (84, true))⟩,
    ⟨(some 89), .pick (.t 84) (.t 88) (.c (.bool false)), none⟩]) <|
  .cond (.t 89) (.seq (.region 1 [⟨(some 2), .mov (.c (.int 2)), none⟩]) <|
  .ret) (.skip)) <|
  .seq (.seq (.region 4 [⟨(some 90), .faddr (some 1) 6 (.b 1), none⟩,
    ⟨(some 91), .load (some 1) 1 false (.t 90), none⟩,
    ⟨(some 92), .len (.t 91), none⟩,
    ⟨(some 93), .bin .gtr (.t 92) (.c (.int 256)), none⟩]) <|
  .cond (.t 93) (.seq (.region 1 [⟨(some 2), .mov (.c (.int 7)), none⟩]) <|
  .ret) (.skip)) <|
  .seq (.seq (.region 4 [⟨(some 94), .faddr (some 1) 6 (.b 1), none⟩,
    ⟨(some 95), .load (some 1) 1 false (.t 94), none⟩,
    ⟨(some 96), .call (.c (.clo 191 [])) [(.t 95)], none⟩,
    ⟨(some 97), .un .not (.t 96), none⟩]) <|
  .cond (.t 97) (.seq (.region 1 [⟨(some 2), .mov (.c (.int 2)), none⟩]) <|
  .ret) (.skip)) <|
  .seq (.region 1 [⟨(some 2), .mov (.c (.int 0)), none⟩]) <|
  .ret
def ir97 : IFn := ⟨98, [1, 4], 1, [.tmp 2], c97⟩
theorem ok97 : compFn prog [1, 4] [] f97 = some ir97 := by kernel_rfl
theorem wp97 {a0 : AV} {r : AV} (H : ∀ σ, WpI prog c97 (retQ [.tmp 2] fun v s => v = r ∧ s = σ) (argE [a0]) 0 σ) : Pure prog 97 [a0] r := @pure_of_wp prog hm 97 f97 [1, 4] [] ir97 [a0] r func97 ok97 (Nat.le_of_ble_eq_true rfl) H
theorem wa97 {a0 : AV} {σ : Heap} {R : AV → Heap → Prop} (H : WpI prog c97 (retQ [.tmp 2] R) (argE [a0]) 0 σ) : CallsA prog 97 [a0] σ R := @callsA_of_wp prog [1, 4] hm 97 f97 [] ir97 [a0] σ R func97 ok97 (Nat.le_of_ble_eq_true rfl) H
/- r12.Check -/
def c28l0 : ICode :=
  .seq (.seq (.region 5 [⟨(some 37), .mov (.t 3), none⟩,
    ⟨(some 38), .faddr (some 1) 5 (.b 1), none⟩,
    ⟨(some 39), .load (some 1) 1 false (.t 38), none⟩,
    ⟨(some 40), .len (.t 39), none⟩,
    ⟨(some 41), .bin .lss (.t 37) (.t 40), none⟩]) <|
  .cond (.t 41) (.skip) (.exit 0)) <|
  .seq (.block 1 (.seq (.region 7 [⟨(some 44), .faddr (some 1) 5 (.b 1), none⟩,
    ⟨(some 45), .load (some 1) 1 false (.t 44), none⟩,
    ⟨(some 46), .mov (.t 3), none⟩,
    ⟨(some 47), .iaddrS 7 (.t 45) (.t 46), none⟩,
    ⟨(some 48), .load none 7 true (.t 47), none⟩,
    ⟨(some 49), .call (.c (.clo 97 [])) [(.t 48)], none⟩,
    ⟨(some 4), .mov (.t 49), none⟩]) <|
  .seq (.region 15 [⟨(some 50), .mov (.t 4), none⟩,
    ⟨(some 51), .bin .neq (.t 50) (.c (.int 0)), none⟩,
    ⟨(some 52), .mov (.t 51), none⟩,
    ⟨(some 53), .faddr (some 1) 4 (.b 1), (some (52, true))⟩,
    ⟨(some 54), .load (some 1) 1 false (.t 53), (some (52, true))⟩,
    ⟨(some 55), .mov (.t 54), (some (52, true))⟩,
    ⟨(some 56), .faddr (some 1) 5 (.b 1), (some (55, true))⟩,
    ⟨(some 57), .load (some 1) 1 false (.t 56), (some (55, true))⟩,
    ⟨(some 58), .mov (.t 3), (some (55, true))⟩,
    ⟨(some 59), .iaddrS 7 (.t 57) (.t 58), (some (55, true))⟩,
    ⟨(some 60), .load none 7 true (.t 59), (some (55, true))⟩,
    ⟨(some 61), .call (.c (.clo 80 [])) [(.t 60)], (some (55, true))⟩,
    ⟨(some 62), .pick (.t 55) (.t 61) (.c (.bool false)), (some (52, true))⟩,
    ⟨(some 63), .un .not (.t 62), (some (52, true))⟩,
    ⟨(some 64), .pick (.t 52) (.t 63) (.c (.bool false)), none⟩]) <|
  .cond (.t 64) (.seq (.region 2 [⟨(some 65), .mov (.t 4), none⟩,
    ⟨(some 2), .mov (.t 65), none⟩]) <|
  .ret) (.skip))) <|
  .region 3 [⟨(some 42), .mov (.t 3), none⟩,
    ⟨(some 43), .bin .add (.t 42) (.c (.int 1)), none⟩,
    ⟨(some 3), .mov (.t 43), none⟩]
def c28 : ICode :=
  .seq (.region 2 [⟨(some 1), .bbox 0 (.t 0), none⟩,
    ⟨(some 2), .mov (.c (.int 0)), none⟩]) <|
  .seq (.seq (.region 24 [⟨(some 5), .faddr (some 1) 0 (.b 1), none⟩,
    ⟨(some 6), .load (some 1) 2 true (.t 5), none⟩,
    ⟨(some 7), .call (.c (.clo 96 [])) [(.t 6)], none⟩,
    ⟨(some 8), .un .not (.t 7), none⟩,
    ⟨(some 9), .mov (.t 8), none⟩,
    ⟨(some 10), .faddr (some 1) 2 (.b 1), (some (9, false))⟩,
    ⟨(some 11), .load (some 1) 1 false (.t 10), (some (9, false))⟩,
    ⟨(some 12), .bin .lss (.t 11) (.c (.int 0)), (some (9, false))⟩,
    ⟨(some 13), .pick (.t 9) (.c (.bool true)) (.t 12), none⟩,
    ⟨(some 14), .mov (.t 13), none⟩,
    ⟨(some 15), .faddr (some 1) 2 (.b 1), (some (14, false))⟩,
    ⟨(some 16), .load (some 1) 1 false (.t 15), (some (14, false))⟩,
    ⟨(some 17), .bin .gtr (.t 16) (.c (.int 7)), (some (14, false))⟩,
    ⟨(some 18), .pick (.t 14) (.c (.bool true)) (.t 17), none⟩,
    ⟨(some 19), .mov (.t 18), none⟩,
    ⟨(some 20), .faddr (some 1) 3 (.b 1), (some (19, false))⟩,
    ⟨(some 21), .load (some 1) 1 false (.t 20), (some (19, false))⟩,
    ⟨(some 22), .bin .lss (.t 21) (.c (.int 1)), (some (19, false))⟩,
    ⟨(some 23), .pick (.t 19) (.c (.bool true)) (.t 22), none⟩,
    ⟨(some 24), .mov (.t 23), none⟩,
    ⟨(some 25), .faddr (some 1) 3 (.b 1), (some (24, false))⟩,
    ⟨(some 26), .load (some 1) 1 false (.t 25), (some (24, false))⟩,
    ⟨(some 27), .bin .gtr (.t 26) (.c (.int 1099511627776)), (some (24, false))⟩,
    ⟨(some 28), .pick (.t 24) (.c (.bool true)) (.t 27), none⟩]) <|
  .cond (.t 28) (.seq (.region 1 [⟨(some 2), .mov (.c (.int 2)), none⟩]) <|
  .ret) (.skip)) <|
  .seq (.seq (.region 4 [⟨(some 29), .faddr (some 1) 5 (.b 1), none⟩,
    ⟨(some 30), .load (some 1) 1 false (.t 29), none⟩,
    ⟨(some 31), .len (.t 30), none⟩,
    ⟨(some 32), .bin .eql (.t 31) (.c (.int 0)), none⟩]) <|
  .cond (.t 32) (.seq (.region 1 [⟨(some 2), .mov (.c (.int 11)), none⟩]) <|
  .ret) (.skip)) <|
  .seq (.seq (.region 4 [⟨(some 33), .faddr (some 1) 5 (.b 1), none⟩,
    ⟨(some 34), .load (some 1) 1 false (.t 33), none⟩,
    ⟨(some 35), .len (.t 34), none⟩,
    ⟨(some 36), .bin .gtr (.t 35) (.c (.int 16)), none⟩]) <|
  .cond (.t 36) (.seq (.region 1 [⟨(some 2), .mov (.c (.int 7)), none⟩]) <|
  .ret) (.skip)) <|
  .seq (.seq (.region 1 [⟨(some 3), .mov (.c (.int 0)), none⟩]) <|
  .block 0 (.loop c28l0)) <|
  .seq (.region 1 [⟨(some 2), .mov (.c (.int 0)), none⟩]) <|
  .ret
def ir28 : IFn := ⟨66, [1], 1, [.tmp 2], c28⟩
theorem ok28 : compFn prog [1] [] f28 = some ir28 := by kernel_rfl
theorem wp28 {a0 : AV} {r : AV} (H : ∀ σ, WpI prog c28 (retQ [.tmp 2] fun v s => v = r ∧ s = σ) (argE [a0]) 0 σ) : Pure prog 28 [a0] r := @pure_of_wp prog hm 28 f28 [1] [] ir28 [a0] r func28 ok28 (Nat.le_of_ble_eq_true rfl) H
theorem wa28 {a0 : AV} {σ : Heap} {R : AV → Heap → Prop} (H : WpI prog c28 (retQ [.tmp 2] R) (argE [a0]) 0 σ) : CallsA prog 28 [a0] σ R := @callsA_of_wp prog [1] hm 28 f28 [] ir28 [a0] σ R func28 ok28 (Nat.le_of_ble_eq_true rfl) H


theorem k_r10_Check (p : List ByteArray) (hp : ∀ x ∈ p, x.size ≤ 1000000) (hl : p.length ≤ 1000000) : Pure prog 189 [encL 1 AV.str p] (.int (pathCheck p)) := by
  refine wp189 fun σ => ?_
  unfold c189
  simp -dsimp (disch := first | omega | assumption) only [↓PB, ↓reduceIte, QB, QC, QD, QE, Nat.reduceAdd, Nat.reduceMul, Nat.reduceEqDiff, Nat.reduceLT, Nat.reduceLeDiff, reduceCtorEq]
  repeat' (first
    | (with_reducible refine condD (fun _ => ?_) (fun _ => ?_)) <;> try (exfalso; omega)
    | (with_reducible refine condB (fun _ => ?_) (fun _ => ?_))
    | (with_reducible refine guardD (fun _ => ?_) (fun _ => ?_)) <;> try (exfalso; omega)
    | (with_reducible refine guardB (fun _ => ?_) (fun _ => ?_))
    | (with_reducible refine app_row (by assumption) src_lst (by simp only [List.length_map, List.length_append, List.length_cons, List.length_nil]; omega) (by simp only [List.length_map, List.length_append, List.length_cons, List.length_nil]; omega) (fun _ _ => ?_))
    | (simp -dsimp (disch := first | omega | assumption) only [↓PB, ↓reduceIte, QB, QC, QD, QE, Nat.reduceAdd, Nat.reduceMul, Nat.reduceEqDiff, Nat.reduceLT, Nat.reduceLeDiff, reduceCtorEq, *]))
  · exact RetG.same ⟨by simp [t4, pathCheck, *], rfl⟩
  · exact RetG.same ⟨by simp [t4, pathCheck, *] <;> omega, rfl⟩
  refine loop_p p.length (fun i e => e 3 = .int i ∧ p.all nameRight = (p.drop i).all nameRight) 0 (by omega) ⟨by simp -dsimp (disch := first | omega | assumption) only [↓PB, ↓reduceIte, QB, QC, QD, QE, Nat.reduceAdd, Nat.reduceMul, Nat.reduceEqDiff, Nat.reduceLT, Nat.reduceLeDiff, reduceCtorEq, *] <;> rfl, by simp⟩ ?_
  rintro i e n hi ha ⟨h3, hg⟩
  have h0 := ha 0 (by decide)
  simp -dsimp (disch := first | omega | assumption) only [↓PB, ↓reduceIte, QB, QC, QD, QE, Nat.reduceAdd, Nat.reduceMul, Nat.reduceEqDiff, Nat.reduceLT, Nat.reduceLeDiff, reduceCtorEq, *] at h0
  clear ha
  unfold c189l0
  repeat' (first
    | (with_reducible refine CallG.pure (k_r03_Right _ (hp _ (List.getElem_mem _))) ?_)
    | (with_reducible refine CallQ.pure (k_r03_Right _ (hp _ (List.getElem_mem _))) ?_)
    | (with_reducible refine condD (fun _ => ?_) (fun _ => ?_)) <;> try (exfalso; omega)
    | (with_reducible refine condB (fun _ => ?_) (fun _ => ?_))
    | (with_reducible refine guardD (fun _ => ?_) (fun _ => ?_)) <;> try (exfalso; omega)
    | (with_reducible refine guardB (fun _ => ?_) (fun _ => ?_))
    | (with_reducible refine app_row (by assumption) src_lst (by simp only [List.length_map, List.length_append, List.length_cons, List.length_nil]; omega) (by simp only [List.length_map, List.length_append, List.length_cons, List.length_nil]; omega) (fun _ _ => ?_))
    | (simp -dsimp (disch := first | omega | assumption) only [↓PB, ↓reduceIte, QB, QC, QD, QE, Nat.reduceAdd, Nat.reduceMul, Nat.reduceEqDiff, Nat.reduceLT, Nat.reduceLeDiff, reduceCtorEq, *]))
  · exact ⟨by simp, by rw [all_step (by assumption)]; simp [*]⟩
  · exact RetG.same ⟨by simp [t4, pathCheck, hg, all_step (show i < p.length by assumption), *] <;> omega, rfl⟩
  · exact RetG.same ⟨by simp [t4, pathCheck, hg, all_end (show ¬ i < p.length by assumption), *] <;> omega, rfl⟩

theorem k_r11_Check (o : Opn) (ho : smOp o) : Pure prog 97 [encOpn o] (.int (opCheck o)) := by
  obtain ⟨h1, h2, h3, h4⟩ := ho
  refine wp97 fun σ => ?_
  unfold c97
  simp -dsimp (disch := first | omega | assumption) only [↓PB, ↓reduceIte, QB, QC, QD, QE, Nat.reduceAdd, Nat.reduceMul, Nat.reduceEqDiff, Nat.reduceLT, Nat.reduceLeDiff, reduceCtorEq]
  repeat' (first
    | (with_reducible refine CallG.pure (k_r10_Check _ h2 h1) ?_)
    | (with_reducible refine CallQ.pure (k_r10_Check _ h2 h1) ?_)
    | (with_reducible refine CallG.pure (k_r09_Right _ h3) ?_)
    | (with_reducible refine CallQ.pure (k_r09_Right _ h3) ?_)
    | (with_reducible refine CallG.pure (k_r11_Refs _ (by omega)) ?_)
    | (with_reducible refine CallQ.pure (k_r11_Refs _ (by omega)) ?_)
    | (with_reducible refine condD (fun _ => ?_) (fun _ => ?_)) <;> try (exfalso; omega)
    | (with_reducible refine condB (fun _ => ?_) (fun _ => ?_))
    | (with_reducible refine guardD (fun _ => ?_) (fun _ => ?_)) <;> try (exfalso; omega)
    | (with_reducible refine guardB (fun _ => ?_) (fun _ => ?_))
    | (with_reducible refine app_row (by assumption) src_lst (by simp only [List.length_map, List.length_append, List.length_cons, List.length_nil]; omega) (by simp only [List.length_map, List.length_append, List.length_cons, List.length_nil]; omega) (fun _ _ => ?_))
    | (simp -dsimp (disch := first | omega | assumption) only [↓PB, ↓reduceIte, QB, QC, QD, QE, Nat.reduceAdd, Nat.reduceMul, Nat.reduceEqDiff, Nat.reduceLT, Nat.reduceLeDiff, reduceCtorEq, zv, *]))
  all_goals exact RetG.same ⟨by simp [t4, opCheck, *] <;> omega, rfl⟩

theorem k_r12_Check (t : Txn) (ht : smTxn t) : Pure prog 28 [encTxn t] (.int (txnCheck t)) := by
  obtain ⟨h1, h2⟩ := ht
  refine wp28 fun σ => ?_
  unfold c28
  simp -dsimp (disch := first | omega | assumption) only [↓PB, ↓reduceIte, QB, QC, QD, QE, Nat.reduceAdd, Nat.reduceMul, Nat.reduceEqDiff, Nat.reduceLT, Nat.reduceLeDiff, reduceCtorEq]
  repeat' (first
    | (with_reducible refine CallG.pure (k_r04_Right _) ?_)
    | (with_reducible refine CallQ.pure (k_r04_Right _) ?_)
    | (with_reducible refine condD (fun _ => ?_) (fun _ => ?_)) <;> try (exfalso; omega)
    | (with_reducible refine condB (fun _ => ?_) (fun _ => ?_))
    | (with_reducible refine guardD (fun _ => ?_) (fun _ => ?_)) <;> try (exfalso; omega)
    | (with_reducible refine guardB (fun _ => ?_) (fun _ => ?_))
    | (with_reducible refine app_row (by assumption) src_lst (by simp only [List.length_map, List.length_append, List.length_cons, List.length_nil]; omega) (by simp only [List.length_map, List.length_append, List.length_cons, List.length_nil]; omega) (fun _ _ => ?_))
    | (simp -dsimp (disch := first | omega | assumption) only [↓PB, ↓reduceIte, QB, QC, QD, QE, Nat.reduceAdd, Nat.reduceMul, Nat.reduceEqDiff, Nat.reduceLT, Nat.reduceLeDiff, reduceCtorEq, *]))
  iterate 6 exact RetG.same ⟨by simp [t4, txnCheck, *] <;> omega, rfl⟩
  refine loop_p t.Ops.length (fun i e => e 3 = .int i ∧ opsCheck t.Thin t.Ops = opsCheck t.Thin (t.Ops.drop i)) 0 (by omega) ⟨by simp -dsimp (disch := first | omega | assumption) only [↓PB, ↓reduceIte, QB, QC, QD, QE, Nat.reduceAdd, Nat.reduceMul, Nat.reduceEqDiff, Nat.reduceLT, Nat.reduceLeDiff, reduceCtorEq, *] <;> rfl, by simp⟩ ?_
  rintro i e n hi ha ⟨h3, hg⟩
  have h1 := ha 1 (by decide)
  simp -dsimp (disch := first | omega | assumption) only [↓PB, ↓reduceIte, QB, QC, QD, QE, Nat.reduceAdd, Nat.reduceMul, Nat.reduceEqDiff, Nat.reduceLT, Nat.reduceLeDiff, reduceCtorEq, *] at h1
  clear ha
  unfold c28l0
  repeat' (first
    | (with_reducible refine CallG.pure (k_r11_Check _ (h2 _ (List.getElem_mem _))) ?_)
    | (with_reducible refine CallQ.pure (k_r11_Check _ (h2 _ (List.getElem_mem _))) ?_)
    | (with_reducible refine CallG.pure (k_r11_Gone _) ?_)
    | (with_reducible refine CallQ.pure (k_r11_Gone _) ?_)
    | (with_reducible refine condD (fun _ => ?_) (fun _ => ?_)) <;> try (exfalso; omega)
    | (with_reducible refine condB (fun _ => ?_) (fun _ => ?_))
    | (with_reducible refine guardD (fun _ => ?_) (fun _ => ?_)) <;> try (exfalso; omega)
    | (with_reducible refine guardB (fun _ => ?_) (fun _ => ?_))
    | (with_reducible refine app_row (by assumption) src_lst (by simp only [List.length_map, List.length_append, List.length_cons, List.length_nil]; omega) (by simp only [List.length_map, List.length_append, List.length_cons, List.length_nil]; omega) (fun _ _ => ?_))
    | (simp -dsimp (disch := first | omega | assumption) only [↓PB, ↓reduceIte, QB, QC, QD, QE, Nat.reduceAdd, Nat.reduceMul, Nat.reduceEqDiff, Nat.reduceLT, Nat.reduceLeDiff, reduceCtorEq, *]))
  · exact ⟨by simp, by rw [List.drop_eq_getElem_cons (by assumption), opsCheck, if_neg (by simp [*])]⟩
  · refine ⟨by simp, ?_⟩
    have hT : t.Thin = true := by assumption
    rw [hT] at hg
    rw [hg, List.drop_eq_getElem_cons (by assumption), opsCheck, if_neg (by simp [*])]
  · have hT : t.Thin = true := by assumption
    refine RetG.same ⟨?_, rfl⟩
    rw [t4, txnCheck, if_neg (by simp [*] <;> omega), if_neg (by assumption), if_neg (by assumption), hg, List.drop_eq_getElem_cons (by assumption), opsCheck, if_pos (by simp [*])]
  · refine RetG.same ⟨?_, rfl⟩
    rw [t4, txnCheck, if_neg (by simp [*] <;> omega), if_neg (by assumption), if_neg (by assumption), hg, List.drop_eq_getElem_cons (by assumption), opsCheck, if_pos (by simp [*])]
  · refine RetG.same ⟨?_, rfl⟩
    rw [t4, txnCheck, if_neg (by simp [*] <;> omega), if_neg (by assumption), if_neg (by assumption), hg, List.drop_eq_nil_of_le (by omega)]; rfl
  · exact RetG.same ⟨by simp [t4, txnCheck, *], rfl⟩
end Go.Av

