/- Part 3 of the proof: own lemmas, of no statement. -/
import Derived.Test.YtjnenmbfojkoeaaGreatDoorVcb
set_option linter.unusedSimpArgs false
set_option linter.unusedVariables false
set_option linter.defProp false
namespace Go.Av

section
variable {B : List Nat} {n : Nat} {F F' K : Nat → Prop} {μ μ' : Nat → Option Spot} {β : Nat → Nat} {U U' : Nat → Prop} {env : Env} {σ σ' : Heap} {a : Act} {w w' : World} {P : Program}

/-- The cells that lie from an address on. -/
def readAt (w : World) (k o m : Nat) : List Value := (List.range m).map fun j => (w.cell? ⟨k, o + j, none⟩).getD undef

theorem readAt_len (w : World) (k o m : Nat) : (readAt w k o m).length = m := by simp [readAt]

/-- Elements that lie from an address on in memory. -/
theorem readAt_lies {sz k o : Nat} {xs : List AV} {vs : Nat → Value} (hs : ∀ i, i < xs.length → (vs i).cells.size = sz) (hcell : ∀ i j c, i < xs.length → (vs i).cells[j]? = some c → w.cell? ⟨k, o + (i * sz + j), none⟩ = some c)
    (hrv : ∀ i (hi : i < xs.length), RV F μ w xs[i] (vs i) ∧ xs[i].flat = true) :
    LiesIn F μ w sz xs (readAt w k o (xs.length * sz)).toArray ∧ (∀ j u, (readAt w k o (xs.length * sz))[j]? = some u → w.cell? ⟨k, o + j, none⟩ = some u) ∧ ∀ u ∈ readAt w k o (xs.length * sz), u.oneCell' = true := by
  have hpos : ∀ j, j < xs.length * sz → ∃ i q, i < xs.length ∧ q < sz ∧ j = i * sz + q := by
    intro j hj
    have h0 : 0 < sz := by
      rcases Nat.eq_zero_or_pos sz with h | h
      · subst h; simp at hj
      · exact h
    refine ⟨j / sz, j % sz, ?_, Nat.mod_lt _ h0, ?_⟩
    · exact Nat.div_lt_of_lt_mul (by rw [Nat.mul_comm]; exact hj)
    · rw [Nat.mul_comm]; exact (Nat.div_add_mod j sz).symm
  have hval : ∀ j, j < xs.length * sz → ∃ i q c, i < xs.length ∧ (vs i).cells[q]? = some c ∧ j = i * sz + q ∧ w.cell? ⟨k, o + j, none⟩ = some c ∧ c.oneCell' = true := by
    intro j hj
    obtain ⟨i, q, hi, hq, rfl⟩ := hpos j hj
    have hq' : q < (vs i).cells.size := by rw [hs i hi]; exact hq
    refine ⟨i, q, (vs i).cells[q], hi, Array.getElem?_eq_getElem hq', rfl, hcell i q _ hi (Array.getElem?_eq_getElem hq'), ?_⟩
    have hc := (hrv i hi).1.cells (hrv i hi).2
    exact (hc.2 q (by rw [← hc.1]; exact hq') hq').2.1
  have hget : ∀ j u, (readAt w k o (xs.length * sz))[j]? = some u → w.cell? ⟨k, o + j, none⟩ = some u := by
    intro j u hu
    obtain ⟨hj, rfl⟩ := List.getElem?_eq_some_iff.1 hu
    rw [readAt_len] at hj
    obtain ⟨_, _, c, _, _, _, hc, _⟩ := hval j hj
    simp [readAt, hc]
  refine ⟨⟨vs, hs, fun i j c hi hj => ?_, hrv⟩, hget, fun u hu => ?_⟩
  · have hjs : j < sz := by have := hs i hi; have := (Array.getElem?_eq_some_iff.1 hj).1; omega
    have hlt : i * sz + j < xs.length * sz := by
      have := Nat.mul_le_mul_right sz (show i + 1 ≤ xs.length from hi)
      rw [Nat.succ_mul] at this; omega
    rw [List.getElem?_toArray]
    have := hcell i j c hi hj
    simp [readAt, hlt, this]
  · obtain ⟨j, hj, rfl⟩ := List.mem_iff_getElem.1 hu
    rw [readAt_len] at hj
    obtain ⟨_, _, c, _, _, _, hc, h1⟩ := hval j hj
    simp [readAt, hc, h1]

theorem LiesIn.nil (sz : Nat) (arr : Array Value) : LiesIn F μ w sz [] arr :=
  ⟨fun _ => undef, fun _ hi => absurd hi (Nat.not_lt_zero _), fun _ _ _ hi => absurd hi (Nat.not_lt_zero _), fun _ hi => absurd hi (Nat.not_lt_zero _)⟩

/-- A row's elements, from one of them on. -/
theorem LiesIn.read {sz lo m : Nat} {es : List AV} {arr : Array Value} {k : Nat} {e : TypeId} (h : LiesIn F μ w sz es arr) (hh : w.heap[k]? = some (.cells arr e (0, 0))) (hle : lo + m ≤ es.length) :
    LiesIn F μ w sz ((es.drop lo).take m) (readAt w k (lo * sz) (m * sz)).toArray ∧ (∀ j u, (readAt w k (lo * sz) (m * sz))[j]? = some u → w.cell? ⟨k, lo * sz + j, none⟩ = some u) ∧ ∀ u ∈ readAt w k (lo * sz) (m * sz), u.oneCell' = true := by
  obtain ⟨vs, h1, h2, h3⟩ := h
  have hl : ((es.drop lo).take m).length = m := by simp; omega
  have := readAt_lies (F := F) (μ := μ) (w := w) (sz := sz) (k := k) (o := lo * sz) (xs := (es.drop lo).take m) (vs := fun i => vs (lo + i)) (fun i hi => h1 _ (by omega)) (fun i j c hi hj => by
      have := h2 (lo + i) j c (by omega) hj
      rw [Nat.add_mul, Nat.add_assoc] at this
      simp [World.cell?, hh, this]) (fun i hi => by
      simp only [List.getElem_take, List.getElem_drop]
      exact h3 _ _)
  rw [hl] at this
  exact this

theorem appSrc_run {x : AV} {v : Value} {sz : Nat} {xs : List AV} (h : appSrc σ sz x = some xs) (hv : EVo U env β F μ w x v) (hi : Inv F K μ σ w) :
    ∃ (p : Option Addr) (m c : Nat) (news : List Value), v = .slice p m c ∧ m = xs.length ∧ news.length = m * sz ∧ (Builtin.firstCells sz m v).run P w = .ok news.toArray w ∧ LiesIn F μ w sz xs news.toArray ∧ (∀ u ∈ news, u.oneCell' = true) := by
  unfold appSrc at h
  split at h
  · cases h; cases hv with
    | nils p =>
      refine ⟨p, 0, 0, [], rfl, rfl, by simp, ?_, LiesIn.nil _ _, by simp⟩
      cases p with
      | none => simp [Builtin.firstCells]
      | some p => simp [Builtin.firstCells, loadCells, loadCellsFrom]
  · rename_i sz' es
    split at h
    · rename_i hsz
      subst hsz
      cases h
      cases hv with
      | lstE _ p cap =>
        refine ⟨p, 0, cap, [], rfl, rfl, by simp, ?_, LiesIn.nil _ _, by simp⟩
        cases p with
        | none => simp [Builtin.firstCells]
        | some p => simp [Builtin.firstCells, loadCells, loadCellsFrom]
      | lst _ _ k o cap vs hF hc hfl hs hcell hall =>
        obtain ⟨l1, l2, l3⟩ := readAt_lies (F := F) (μ := μ) (w := w) hs hcell (fun i hi => ⟨hall i hi, hfl _ (List.getElem_mem _)⟩)
        refine ⟨_, _, cap, readAt w k o (xs.length * sz'), rfl, rfl, readAt_len _ _ _ _, ?_, l1, l3⟩
        have := run_firstCells_some (P := P) w sz' xs.length ⟨k, o, none⟩ xs.length cap (readAt w k o (xs.length * sz')) (readAt_len _ _ _ _) (fun j u hu => by rw [Addr.add_none]; exact l2 j u hu)
        exact this
    · cases h
  · rename_i sz' b lo m
    simp only [Option.bind_eq_some_iff] at h
    obtain ⟨row, hrow, h⟩ := h
    unfold rowOf at hrow
    split at hrow
    · rename_i szr es hσ
      cases hrow
      split at h
      · rename_i hc
        obtain ⟨rfl, hle⟩ := hc
        simp only at hle
        cases h
        have hl : ((es.drop lo).take m).length = m := by simp; omega
        cases hv with
        | rowE _ _ _ p =>
          refine ⟨p, 0, 0, [], rfl, hl.symm, by simp, ?_, by rw [List.take_zero]; exact LiesIn.nil _ _, by simp⟩
          cases p with
          | none => simp [Builtin.firstCells]
          | some p => simp [Builtin.firstCells, loadCells, loadCellsFrom]
        | row _ _ _ _ cap sp hμ hsp hn hcp =>
          rcases hi.blk b _ hσ with ⟨h0, hμ0⟩ | ⟨sp', arr, et, g1, g2, g3, g4, g5, g6, g7⟩
          · rw [hμ0] at hμ; cases hμ
          · rw [hμ] at g1; cases g1
            obtain ⟨l1, l2, l3⟩ := g7.read g2 hle
            refine ⟨_, _, cap, readAt w sp.k (lo * szr) (m * szr), rfl, hl.symm, readAt_len _ _ _ _, ?_, l1, l3⟩
            rw [g4]
            exact run_firstCells_some (P := P) w szr m ⟨sp.k, lo * szr, none⟩ m cap _ (readAt_len _ _ _ _) (fun j u hu => by rw [Addr.add_none]; exact l2 j u hu)
      · cases h
    · cases hrow
  · cases h

/-- Rows one behind the other. -/
theorem LiesIn.append {sz : Nat} {es xs : List AV} {old new rest : List Value} (h1 : LiesIn F μ w sz es old.toArray) (hl : old.length = es.length * sz) (h2 : LiesIn F μ w sz xs new.toArray) (hl2 : new.length = xs.length * sz) :
    LiesIn F μ w sz (es ++ xs) (old ++ new ++ rest).toArray := by
  obtain ⟨vs, a1, a2, a3⟩ := h1
  obtain ⟨us, b1, b2, b3⟩ := h2
  refine ⟨fun i => if i < es.length then vs i else us (i - es.length), fun i hi => ?_, fun i j c hi hj => ?_, fun i hi => ?_⟩
  · rw [List.length_append] at hi
    simp only
    split
    · exact a1 i ‹_›
    · exact b1 _ (by omega)
  · rw [List.length_append] at hi
    simp only at hj
    rw [List.getElem?_toArray, List.append_assoc]
    split at hj
    · rename_i hlt
      have hjs : j < sz := by have := a1 i hlt; have := (Array.getElem?_eq_some_iff.1 hj).1; omega
      have hlt2 : i * sz + j < es.length * sz := by
        have := Nat.mul_le_mul_right sz (show i + 1 ≤ es.length from hlt)
        rw [Nat.succ_mul] at this; omega
      rw [List.getElem?_append_left (by omega)]
      have := a2 i j c hlt hj
      simpa using this
    · rename_i hlt
      have hi2 : i - es.length < xs.length := by omega
      have hjs : j < sz := by have := b1 _ hi2; have := (Array.getElem?_eq_some_iff.1 hj).1; omega
      have hlt2 : (i - es.length) * sz + j < xs.length * sz := by
        have := Nat.mul_le_mul_right sz (show (i - es.length) + 1 ≤ xs.length from hi2)
        rw [Nat.succ_mul] at this; omega
      have hge : es.length * sz ≤ i * sz := Nat.mul_le_mul_right _ (by omega)
      rw [List.getElem?_append_right (by omega), List.getElem?_append_left (by rw [Nat.sub_mul] at hlt2; omega)]
      have := b2 _ j c hi2 hj
      rw [List.getElem?_toArray] at this
      rw [← this]; congr 1
      rw [Nat.sub_mul]; omega
  · rw [List.length_append] at hi
    simp only
    by_cases hlt : i < es.length
    · rw [if_pos hlt, List.getElem_append_left hlt]; exact a3 i hlt
    · rw [if_neg hlt, List.getElem_append_right (by omega)]; exact b3 _ (by omega)

theorem run_append_room' {t ty e : TypeId} {i : TypeInfo} (ht : P.underlying t = some (.slice e)) (hi : P.info? e = some i) {p : Option Addr} {m c : Nat} {news : List Value}
    (hf : (Builtin.firstCells i.size m (.slice p m c)).run P w = .ok news.toArray w) {k sLen sCap : Nat} {cur : Array Value} {e' : TypeId} (hg : w.heap[k]? = some (.cells cur e' (0, 0))) (h1 : ∀ u ∈ news, u.oneCell' = true)
    (hroom : sLen + m ≤ sCap) (hfit : sLen * i.size + news.length ≤ cur.size) :
    (Builtin.append_ #[t, t] ty #[.slice (some ⟨k, 0, none⟩) sLen sCap, .slice p m c]).run P w = .ok (.slice (some ⟨k, 0, none⟩) (sLen + m) sCap) (w.setRow k (over cur.toList (sLen * i.size) news).toArray) := by
  have hst := run_storeCells_at P k (sLen * i.size) e' news 0 cur w hg (by simpa using hfit) h1
  simp only [Nat.add_zero] at hst
  have hst' : (storeCells ((⟨k, 0, none⟩ : Addr).add (sLen * i.size)) news).run P w = .ok () (w.setRow k (over cur.toList (sLen * i.size) news).toArray) := by
    rw [Addr.add_none, Nat.zero_add]; exact hst
  simp [Builtin.append_, run_underlying ht, sizeOf, typeInfo, hi, Builtin.lenOf, hroom, hf, hst']

theorem run_append_grow' {t ty e : TypeId} {i : TypeInfo} {z : Value} (ht : P.underlying t = some (.slice e)) (hi : P.info? e = some i) (hz : i.zero = some z) {ps : Option Addr} {sLen sCap : Nat} {olds : List Value}
    (ho : (Builtin.firstCells i.size sLen (.slice ps sLen sCap)).run P w.drew = .ok olds.toArray w.drew) {p : Option Addr} {m c : Nat} {news : List Value}
    (hf : (Builtin.firstCells i.size m (.slice p m c)).run P w.drew = .ok news.toArray w.drew) (hg : sCap < sLen + m) (h63 : ((sLen + m : Nat) : Int) ≤ 9223372036854775807)
    (hfit : Builtin.nextslicecap (sLen + m) sCap * i.bytes ≤ 281474976710656) :
    (Builtin.append_ #[t, t] ty #[.slice ps sLen sCap, .slice p m c]).run P w =
      .ok (.slice (some ⟨w.heap.size, 0, none⟩) (sLen + m) (grownCap w (sLen + m) sCap e))
        (w.drew.alloc (.cells (olds.toArray ++ news.toArray ++ Builtin.zeroCells z.cells (grownCap w (sLen + m) sCap e - (sLen + m))) e)) := by
  have hn : ¬ (sLen + m ≤ sCap) := by omega
  have h63' : ¬ (9223372036854775807 < ((sLen : Int) + (m : Int))) := by omega
  have h48' : ¬ (281474976710656 < Builtin.nextslicecap (sLen + m) sCap * i.bytes) := by omega
  simp [Builtin.append_, run_underlying ht, sizeOf, typeInfo, zeroValue, hi, hz, Builtin.lenOf, hn, h63', h48', Question.forced, ho, hf, newRow, grownCap]
  rw [← Array.append_assoc, show olds.toArray ++ news.toArray = (olds ++ news).toArray from by simp]

theorem run_append_none {t ty e : TypeId} {i : TypeInfo} (ht : P.underlying t = some (.slice e)) (hi : P.info? e = some i) {ps p : Option Addr} {c : Nat}
    (hf : (Builtin.firstCells i.size 0 (.slice p 0 c)).run P w = .ok #[] w) :
    (Builtin.append_ #[t, t] ty #[.slice ps 0 0, .slice p 0 c]).run P w = .ok (.slice ps 0 0) w := by
  cases ps <;> simp [Builtin.append_, run_underlying ht, sizeOf, typeInfo, hi, Builtin.lenOf, hf, storeCells]

/-- An abstract block of no element, that lies nowhere. -/
theorem Inv.phantom (h : Inv F K μ σ w) {c : Nat} (hc : μ c = none) (sz : Nat) : Inv F K μ (upd σ c (some (.row sz []))) w := by
  refine ⟨fun b o hb => ?_, fun b b' s s' h1 h2 h3 h4 => ?_, fun b s h1 h2 => ?_, h.sep, h.bdF, h.bdK, ?_⟩
  · by_cases hbc : b = c
    · subst hbc; simp at hb; subst hb; exact .inl ⟨rfl, hc⟩
    · rw [upd_ne _ _ hbc] at hb; exact h.blk b o hb
  · have hb : b ≠ c := fun e => by subst e; rw [hc] at h3; cases h3
    have hb' : b' ≠ c := fun e => by subst e; rw [hc] at h4; cases h4
    rw [upd_ne _ _ hb] at h1; rw [upd_ne _ _ hb'] at h2
    exact h.inj b b' s s' h1 h2 h3 h4
  · have hb : b ≠ c := fun e => by subst e; rw [hc] at h2; cases h2
    rw [upd_ne _ _ hb] at h1
    exact h.nof b s h1 h2
  · obtain ⟨N, hN⟩ := h.fin
    refine ⟨max N (c + 1), fun b hb => ?_⟩
    rw [upd_ne _ _ (by omega)]; exact hN b (by omega)

theorem Inv.killB (h : Inv F K μ σ w) (d : Option Nat) : Inv F K μ (killB σ d) w := by
  cases d with
  | none => exact h
  | some b => exact h.kill b

/-- What an append comes to. -/
def AppRes (F K : Nat → Prop) (μ : Nat → Option Spot) (w : World) (sz : Nat) (d : Option Nat) (σ : Heap) (es : List AV) (v : Value) (w' : World) : Prop :=
  ∃ c μ', σ c = none ∧ RV F μ' w' (.row sz c 0 es.length) v ∧ Inv F K μ' (upd (killB σ d) c (some (.row sz es))) w' ∧ Ext F K μ w F μ' w'

/-- .. in a new block. -/
theorem app_new {sz cap : Nat} {es : List AV} {arr : Array Value} {e : TypeId} {d : Option Nat} (hi : Inv F K μ σ w) (hl : LiesIn F μ w.drew sz es arr) (hs : arr.size = cap * sz) (hc : es.length ≤ cap) (hm : cap ≤ maxLen) :
    AppRes F K μ w sz d σ es (.slice (some ⟨w.heap.size, 0, none⟩) es.length cap) (w.drew.alloc (.cells arr e)) := by
  obtain ⟨c, h1, h2⟩ := hi.fresh
  have hi' : Inv F K μ σ w.drew := hi.drew
  have hk : (killB σ d) c = none := by
    cases d with
    | none => exact h2
    | some b => by_cases hcb : c = b <;> simp [killB, upd, hcb, h2]
  have he : Ext F K μ w.drew F (upd μ c (some ⟨w.heap.size, sz, cap⟩)) (w.drew.alloc (.cells arr e)) := Ext.new hi'.bdF hi'.bdK _ h1 _
  have he0 : Ext F K μ w F μ w.drew := Ext.drew
  refine ⟨c, upd μ c (some ⟨w.heap.size, sz, cap⟩), h2, ?_, ?_, he0.trans he⟩
  · have := RV.row (F := F) (μ := upd μ c (some ⟨w.heap.size, sz, cap⟩)) (w := w.drew.alloc (.cells arr e)) sz c 0 es.length cap ⟨w.heap.size, sz, cap⟩ (by simp) rfl hc (by simp)
    simpa using this
  · exact (hi'.killB d).new (blk := .row sz es) _ h1 rfl (.inr ⟨⟨w.heap.size, sz, cap⟩, arr, e, by simp, alloc_new w.drew _, hs, rfl, hc, hm, hl.ext he⟩)

theorem app_sound {t ty e : TypeId} {i : TypeInfo} {zv : Value} (ht : P.underlying t = some (.slice e)) (hin : P.info? e = some i) (hz : i.zero = some zv) (hzs : zv.cells.size = i.size)
    {s x : AV} {sv xv : Value} {d : List AV × Option Nat} {xs : List AV} (hi : Inv F K μ σ w) (hs : EVo U env β F μ w s sv) (hx : EVo U env β F μ w x xv) (hd : appDst σ i.size s = some d) (hxs : appSrc σ i.size x = some xs)
    (hb : (d.1.length + xs.length) * i.bytes ≤ 140737488355328) (hm : d.1.length + xs.length ≤ maxLen) :
    ∃ v w', (Builtin.append_ #[t, t] ty #[sv, xv]).run P w = .ok v w' ∧ AppRes F K μ w i.size d.2 σ (d.1 ++ xs) v w' := by
  obtain ⟨p, m, c, news, rfl, rfl, n1, n2, n3, n4⟩ := appSrc_run (P := P) hxs hx hi
  obtain ⟨p', m', c', news', e1, rfl, n1', n2', n3', n4'⟩ := appSrc_run (P := P) hxs (hx.ext (K' := K) Ext.drew) hi.drew
  simp only [Value.slice.injEq] at e1
  obtain ⟨rfl, _, rfl⟩ := e1
  have grow : ∀ (ps : Option Addr) (sLen sCap : Nat) (olds : List Value), (Builtin.firstCells i.size sLen (.slice ps sLen sCap)).run P w.drew = .ok olds.toArray w.drew → olds.length = d.1.length * i.size → LiesIn F μ w.drew i.size d.1 olds.toArray →
      sLen = d.1.length → sCap < sLen + xs.length →
      ∃ v w', (Builtin.append_ #[t, t] ty #[.slice ps sLen sCap, .slice p xs.length c]).run P w = .ok v w' ∧ AppRes F K μ w i.size d.2 σ (d.1 ++ xs) v w' := by
    intro ps sLen sCap olds h1 h2 h3 h4 h5
    subst h4
    have h63 : ((d.1.length + xs.length : Nat) : Int) ≤ 9223372036854775807 := by simp only [maxLen] at hm; omega
    refine ⟨_, _, run_append_grow' ht hin hz h1 n2' h5 h63 (growslice_fits h5 hb), ?_⟩
    have hge := grownCap_ge w (d.1.length + xs.length) sCap e
    have hle := grownCap_le_maxLen w (d.1.length + xs.length) sCap e hm
    have hla := (h3.append h2 n3' n1' (rest := (Builtin.zeroCells zv.cells (grownCap w (d.1.length + xs.length) sCap e - (d.1.length + xs.length))).toList))
    have := app_new (e := e) (d := d.2) hi hla (cap := grownCap w (d.1.length + xs.length) sCap e) (by
      simp only [List.size_toArray, List.length_append, Array.length_toList, size_zeroCells, hzs, h2, n1', ← Nat.add_mul]
      congr 1; omega) (by rw [List.length_append]; exact hge) hle
    rw [List.length_append] at this
    have harr : (olds ++ news' ++ (Builtin.zeroCells zv.cells (grownCap w (d.1.length + xs.length) sCap e - (d.1.length + xs.length))).toList).toArray = olds.toArray ++ news'.toArray ++ Builtin.zeroCells zv.cells (grownCap w (d.1.length + xs.length) sCap e - (d.1.length + xs.length)) := by simp
    rw [harr] at this
    exact this
  have empty : ∀ ps : Option Addr, d.1 = [] → ∃ v w', (Builtin.append_ #[t, t] ty #[.slice ps 0 0, .slice p xs.length c]).run P w = .ok v w' ∧ AppRes F K μ w i.size d.2 σ (d.1 ++ xs) v w' := by
    intro ps hd1
    by_cases hx0 : xs = []
    · subst hx0
      have hn : news = [] := List.eq_nil_of_length_eq_zero (by simpa using n1)
      subst hn
      obtain ⟨b, h1, h2⟩ := hi.fresh
      refine ⟨_, w, run_append_none ht hin n2, b, μ, h2, ?_, ?_, Ext.refl F K μ w⟩
      · rw [hd1]; exact .rowE _ _ _ _
      · rw [hd1]; exact (hi.killB d.2).phantom h1 _
    · have hpos : 0 < xs.length := List.length_pos_iff.2 hx0
      refine grow ps 0 0 [] ?_ (by simp [hd1]) (by rw [hd1]; exact LiesIn.nil _ _) (by simp [hd1]) (by omega)
      cases ps with
      | none => simp [Builtin.firstCells]
      | some q => simp [Builtin.firstCells, loadCells, loadCellsFrom]
  unfold appDst at hd
  split at hd
  · cases hd
    cases hs with
    | nils ps => exact empty ps rfl
  · rename_i sz' b lo k
    split at hd
    · rename_i hc
      obtain ⟨rfl, rfl⟩ := hc
      simp only [Option.bind_eq_some_iff] at hd
      obtain ⟨row, hrow, hd⟩ := hd
      unfold rowOf at hrow
      split at hrow
      · rename_i szr es hσ
        cases hrow
        split at hd
        · rename_i hc
          obtain ⟨hsz, hle⟩ := hc
          simp only at hsz hle
          subst hsz
          cases hd
          cases hs with
          | rowE _ _ _ ps => exact empty ps (by simp)
          | row _ _ _ _ cap sp hμ hsp hn hcp =>
            rcases hi.blk b _ hσ with ⟨_, hμ0⟩ | ⟨sp', arr, et, g1, g2, g3, g4, g5, g6, g7⟩
            · rw [hμ0] at hμ; cases hμ
            · rw [hμ] at g1; cases g1
              have hlt : (es.take k).length = k := by simp; omega
              obtain ⟨l1, l2, l3⟩ := g7.read g2 (lo := 0) (m := k) (by omega)
              simp only [List.drop_zero, Nat.zero_mul] at l1 l2 l3
              have hcap : cap ≤ sp.cap := by omega
              have hval : (Value.slice (some ⟨sp.k, 0 * sp.sz, none⟩) k cap) = .slice (some ⟨sp.k, 0, none⟩) k cap := by rw [Nat.zero_mul]
              rw [hval]
              by_cases hroom : k + xs.length ≤ cap
              · have hfit : k * i.size + news.length ≤ arr.size := by
                  rw [n1, g3, g4, ← Nat.add_mul]; exact Nat.mul_le_mul_right _ (by omega)
                refine ⟨_, _, run_append_room' ht hin n2 g2 n4 hroom hfit, ?_⟩
                obtain ⟨c', h1, h2⟩ := hi.fresh
                have hcb : c' ≠ b := fun ec => by subst ec; rw [h1] at hμ; cases hμ
                -- the block goes on under a new name
                have hsq : sp.cap * i.size = arr.size := by rw [g3, g4]
                have hover : (over arr.toList (k * i.size) news).toArray.size = sp.cap * sp.sz := by
                  rw [List.size_toArray, over_length (by simpa using hfit)]; simpa using g3
                have hln : LiesIn F μ w i.size (es.take k ++ xs) (over arr.toList (k * i.size) news).toArray := by
                  have hk1 : LiesIn F μ w i.size (es.take k) (arr.toList.take (k * i.size)).toArray := by
                    obtain ⟨vs, a1, a2, a3⟩ := g7
                    refine ⟨vs, fun j hj => a1 j (by rw [hlt] at hj; omega), fun j q cc hj hq => ?_, fun j hj => ?_⟩
                    · rw [hlt] at hj
                      have hqs : q < i.size := by have := a1 j (by omega); have := (Array.getElem?_eq_some_iff.1 hq).1; omega
                      have hlt2 : j * i.size + q < k * i.size := by
                        have := Nat.mul_le_mul_right i.size (show j + 1 ≤ k from hj)
                        rw [Nat.succ_mul] at this; omega
                      rw [List.getElem?_toArray, List.getElem?_take, if_pos hlt2]
                      have := a2 j q cc (by omega) hq
                      simpa using this
                    · simp only [List.getElem_take]; exact a3 j (by rw [hlt] at hj; omega)
                  have := hk1.append (by rw [hlt, List.length_take, Array.length_toList]; omega) n3 n1 (rest := arr.toList.drop (k * i.size + news.length))
                  exact this
                have hoth : ∀ j, j ≠ sp.k → (w.setRow sp.k (over arr.toList (k * i.size) news).toArray).heap[j]? = w.heap[j]? := fun j hj => setRow_other w _ j _ hj
                have hnof := hi.nof b sp (by rw [hσ]; simp) hμ
                have he : Ext F K μ w F (upd μ c' (some sp)) (w.setRow sp.k (over arr.toList (k * i.size) news).toArray) :=
                  ⟨rfl, rfl, rfl, fun _ => Nat.le_refl _, by rw [setRow_size]; exact Nat.le_refl _, fun _ h => h, fun b' s' hb' => by rw [upd_ne _ _ (fun e => by subst e; rw [h1] at hb'; cases hb')]; exact hb',
                    fun j hj => hoth j (fun ej => by subst ej; exact hj.elim hnof.1 hnof.2)⟩
                have hlive : ∀ q, (upd (upd σ b none) c' (some (.row i.size (es.take k ++ xs)))) q ≠ none → q = c' ∨ (q ≠ c' ∧ q ≠ b ∧ σ q ≠ none) := by
                  intro q hq
                  by_cases h3 : q = c'
                  · exact .inl h3
                  · rw [upd_ne _ _ h3] at hq
                    by_cases h4 : q = b
                    · subst h4; simp at hq
                    · rw [upd_ne _ _ h4] at hq; exact .inr ⟨h3, h4, hq⟩
                refine ⟨c', upd μ c' (some sp), h2, ?_, ?_, he⟩
                · have := RV.row (F := F) (μ := upd μ c' (some sp)) (w := w.setRow sp.k (over arr.toList (k * i.size) news).toArray) i.size c' 0 (k + xs.length) cap sp (by simp) g4 hroom (by omega)
                  rw [Nat.zero_mul] at this
                  rw [List.length_append, hlt]
                  exact this
                · refine ⟨fun q o hq => ?_, fun q q' s s' h3 h4 h5 h6 h7 => ?_, fun q s h3 h4 => ?_, hi.sep, fun j hj => by rw [setRow_size]; exact hi.bdF j hj, fun j hj => by rw [setRow_size]; exact hi.bdK j hj, ?_⟩
                  · rcases hlive q (by rw [show upd (killB σ (some b)) c' _ q = _ from rfl] at hq; simp only [killB] at hq; rw [hq]; simp) with rfl | ⟨q1, q2, q3⟩
                    · simp at hq; subst hq
                      exact .inr ⟨sp, _, et, by simp, setRow_heap w _ _ _ _ _ g2, hover, g4, by rw [List.length_append, hlt]; omega, g6, hln.ext he⟩
                    · simp only [killB] at hq
                      rw [upd_ne _ _ q1, upd_ne _ _ q2] at hq
                      exact (hi.blk q o hq).ext he (fun s hs => hoth _ (fun ej => q2 (hi.inj q b s sp q3 (by rw [hσ]; simp) hs hμ ej))) (fun hn => by rw [upd_ne _ _ q1]; exact hn)
                  · rcases hlive q h3 with rfl | ⟨q1, q2, q3⟩ <;> rcases hlive q' h4 with rfl | ⟨q1', q2', q3'⟩
                    · rfl
                    · rw [upd_same] at h5; cases h5
                      rw [upd_ne _ _ q1'] at h6
                      exact absurd (hi.inj q' b s' sp q3' (by rw [hσ]; simp) h6 hμ h7.symm) q2'
                    · rw [upd_same] at h6; cases h6
                      rw [upd_ne _ _ q1] at h5
                      exact absurd (hi.inj q b s sp q3 (by rw [hσ]; simp) h5 hμ h7) q2
                    · rw [upd_ne _ _ q1] at h5; rw [upd_ne _ _ q1'] at h6
                      exact hi.inj q q' s s' q3 q3' h5 h6 h7
                  · rcases hlive q h3 with rfl | ⟨q1, q2, q3⟩
                    · rw [upd_same] at h4; cases h4; exact hnof
                    · rw [upd_ne _ _ q1] at h4; exact hi.nof q s q3 h4
                  · obtain ⟨N, hN⟩ := hi.fin
                    refine ⟨max N (max (c' + 1) (b + 1)), fun q hq => ?_⟩
                    simp only [killB]
                    rw [upd_ne _ _ (by omega), upd_ne _ _ (by omega), upd_ne _ _ (by omega)]
                    exact hN q (by omega)
              · have hdr := (g7.ext (K := K) Ext.drew).read (w := w.drew) (k := sp.k) (e := et) g2 (lo := 0) (m := k) (by omega)
                simp only [List.drop_zero, Nat.zero_mul] at hdr
                refine grow (some ⟨sp.k, 0, none⟩) k cap (readAt w.drew sp.k 0 (k * i.size)) ?_ (by rw [readAt_len, hlt]) ?_ hlt.symm (by omega)
                · exact run_firstCells_some (P := P) w.drew i.size k ⟨sp.k, 0, none⟩ k cap _ (readAt_len _ _ _ _) (fun j u hu => by rw [Addr.add_none]; exact hdr.2.1 j u hu)
                · exact hdr.1
        · cases hd
      · cases hrow
    · cases hd
  · cases hd

end
end Go.Av

namespace Go.Av

section
variable {B : List Nat} {n : Nat} {F F' K : Nat → Prop} {μ μ' : Nat → Option Spot} {β : Nat → Nat} {U U' : Nat → Prop} {env : Env} {σ σ' : Heap} {a : Act} {w w' : World} {P : Program}

theorem step_app {o : Oper} {x y : Operand} {t e : TypeId} {i : TypeInfo} {z : AV} {X Y : Opd} {k : Env → Heap → Prop} {Q : Exit → Act → World → Prop} (ho : o.op = .call { callee := .builtin .append, args := #[x, y], argTypes := #[t, t] })
    (hu : P.underlying t = some (.slice e)) (hi : P.info? e = some i) (hz : tyZero P e = some z) (hx : opd B x = some X) (hy : opd B y = some Y) (hr : Rel B n F K μ β U env σ a w) (hd : DstOk B n o.dst)
    (hv : AppG i.size i.bytes (X.ev env) (Y.ev env) σ fun r s => k (putE env o.dst r) s) (hU : ∀ s, U s → U' s) : o.wp P a w (Post B n F K μ w U' k) Q := by
  obtain ⟨d, hd1, xs, hxs, hb, hm, hk⟩ := hv
  obtain ⟨zv, z1, z2, z3, z4, i', hi', hiz, his⟩ := tyZero_ok hz F μ w
  rw [hi] at hi'; cases hi'
  have hzs : zv.cells.size = i.size := by rw [(z2.cells z3).1, his]
  obtain ⟨v, w', h1, c, μ', h2, h3, h4, h5⟩ := app_sound (ty := o.type) hu hi hiz hzs hr.inv (opd_ev hx hr) (opd_ev hy hr) hd1 hxs hb hm
  refine step_later (u := v) hr hd ?_ h5 h4 h3 hU ?_
  · simp only [execOp, ho, resolve, invoke, builtin, Sem.run_bind, Sem.run_pure, Result.andThen_ok, List.map_toArray, List.map_cons, List.map_nil, h1]
  · have := hk c h2
    rw [List.length_append]; exact this

theorem step_mks {o : Oper} {x y : Operand} {t e : TypeId} {i : TypeInfo} {z : AV} {X Y : Opd} {k : Env → Heap → Prop} {Q : Exit → Act → World → Prop} (ho : o.op = .makeSlice t x y)
    (hu : P.underlying t = some (.slice e)) (hi : P.info? e = some i) (hz : tyZero P e = some z) (hx : opd B x = some X) (hy : opd B y = some Y) (hr : Rel B n F K μ β U env σ a w) (hd : DstOk B n o.dst)
    (hv : MksG i.size i.bytes z (X.ev env) (Y.ev env) σ fun r s => k (putE env o.dst r) s) (hU : ∀ s, U s → U' s) : o.wp P a w (Post B n F K μ w U' k) Q := by
  obtain ⟨l, hl, c, hc, ⟨h0, hlc, hb, h63⟩, hk⟩ := hv
  obtain ⟨zv, z1, z2, z3, z4, i', hi', hiz, his⟩ := tyZero_ok hz F μ w
  rw [hi] at hi'; cases hi'
  obtain ⟨kl, e1⟩ := asI_ev hl (opd_ev hx hr)
  obtain ⟨kc, e2⟩ := asI_ev hc (opd_ev hy hr)
  obtain ⟨b, b1, b2⟩ := hr.inv.fresh
  have hzs : zv.cells.size = i.size := by rw [(z2.cells z3).1, his]
  have hrun := run_make (P := P) w t e i zv hu hi hiz kl kc l c h0 hlc (by omega) h63
  have he : Ext F (KB K env β) μ w F (upd μ b (some ⟨w.heap.size, i.size, c.toNat⟩)) (w.alloc (.cells (madeCells zv.cells (c.toNat * i.size)) e)) := Ext.new hr.inv.bdF hr.inv.bdK _ b1 _
  have hmsz : (madeCells zv.cells (c.toNat * i.size)).size = c.toNat * i.size := by simp [madeCells]
  have hlies : LiesIn F μ w i.size (List.replicate l.toNat z) (madeCells zv.cells (c.toNat * i.size)) := by
    refine ⟨fun _ => zv, fun _ _ => hzs, fun j q cc hj hq => ?_, fun j hj => by simp only [List.getElem_replicate]; exact ⟨z2, z3⟩⟩
    rw [List.length_replicate] at hj
    obtain ⟨hq1, rfl⟩ := Array.getElem?_eq_some_iff.1 hq
    rw [hzs] at hq1
    have hlt : j * i.size + q < c.toNat * i.size := by
      have := Nat.mul_le_mul_right i.size (show j + 1 ≤ c.toNat by omega)
      rw [Nat.succ_mul] at this; omega
    have hmod : (j * i.size + q) % zv.cells.size = q := by
      rw [hzs, Nat.mul_comm, Nat.mul_add_mod]; exact Nat.mod_eq_of_lt hq1
    simp only [madeCells]
    rw [Array.getElem?_map, Array.getElem?_range, if_pos hlt]
    simp only [Option.map_some, hmod]
    rw [getElem!_pos zv.cells q (by rw [hzs]; exact hq1)]
  have h1 : (execOp a.eval o).run P w = .ok (.value (.slice (some ⟨w.heap.size, 0, none⟩) l.toNat c.toNat)) (w.alloc (.cells (madeCells zv.cells (c.toNat * i.size)) e)) := by
    simp [execOp, ho, e1, e2, hrun]
  refine step_later (F' := F) (μ' := upd μ b (some ⟨w.heap.size, i.size, c.toNat⟩)) (σ' := upd σ b (some (.row i.size (List.replicate l.toNat z)))) hr hd h1 he
    (hr.inv.new (blk := .row i.size (List.replicate l.toNat z)) _ b1 rfl (.inr ⟨⟨w.heap.size, i.size, c.toNat⟩, _, e, by simp, alloc_new w _, hmsz, rfl, by simp; omega, by simp only [maxLen]; omega, hlies.ext he⟩)) ?_ hU (hk b b2)
  have := RV.row (F := F) (μ := upd μ b (some ⟨w.heap.size, i.size, c.toNat⟩)) (w := w.alloc (.cells (madeCells zv.cells (c.toNat * i.size)) e)) i.size b 0 l.toNat c.toNat ⟨w.heap.size, i.size, c.toNat⟩ (by simp) rfl (by omega) (by simp)
  simpa using this

theorem RVs.of_ev {xs : List Operand} {Xs : List Opd} (h : xs.mapM (opd B) = some Xs) (hr : Rel B n F K μ β U env σ a w) (hf : ∀ X ∈ Xs, ∀ t st off, X.ev env ≠ .dpt t st off) : RVs F μ w (Xs.map (·.ev env)) (xs.map a.eval) := by
  obtain ⟨h1, h2⟩ := opds_ev h hr
  refine ⟨by simp [h1], fun i hi hj => ?_⟩
  simp only [List.getElem_map]
  simp only [List.length_map] at hi hj
  have := h2 i hj hi
  exact this.rv (fun st e he => by rw [he] at this; exact this) (hf _ (List.getElem_mem _))

/-- The callee of a call. -/
theorem clo_ev {f : FuncId} {caps : List AV} {v : Value} (h : EVo U env β F μ w (.clo f caps) v) : ∃ vs : List Value, v = .func (.func f) #[] vs.toArray ∧ RVs F μ w caps vs := by
  cases h with
  | clo _ _ vs hl h => exact ⟨vs, rfl, hl, h⟩

theorem RVs.append {as bs : List AV} {vs us : List Value} (h1 : RVs F μ w as vs) (h2 : RVs F μ w bs us) : RVs F μ w (as ++ bs) (vs ++ us) := by
  refine ⟨by rw [List.length_append, List.length_append, h1.1, h2.1], fun i hi hj => ?_⟩
  have hl := h1.1
  by_cases h : i < as.length
  · rw [List.getElem_append_left h, List.getElem_append_left (by omega)]; exact h1.2 i h (by omega)
  · rw [List.getElem_append_right (by omega), List.getElem_append_right (by omega)]
    rw [List.length_append] at hi hj
    have := h2.2 (i - as.length) (by omega) (by omega)
    simp only [hl]; exact this

theorem run_call {o : Oper} {c : Call} {f : Operand} {args : List Operand} (ho : o.op = .call c) (hc : c.callee = .value f) (ha : c.args = args.toArray) {fid : FuncId} {vs : List Value} (hf : a.eval f = .func (.func fid) #[] vs.toArray) (w : World) :
    (execOp a.eval o).run P w = (callFunc fid ((args.map a.eval) ++ vs).toArray).run P w := by
  simp [execOp, ho, resolve, hc, ha, hf, Deferred.ofValue, invoke]

/-- A call whose contract is at hand. -/
theorem step_callsem {o : Oper} {fid : FuncId} {vs : Array Value} {R : AV → Heap → Prop} {k : Env → Heap → Prop} {Q : Exit → Act → World → Prop} (hr : Rel B n F K μ β U env σ a w) (hd : DstOk B n o.dst)
    (hrun : (execOp a.eval o).run P w = (callFunc fid vs).run P w) {F1 : Nat → Prop} {μ1 : Nat → Option Spot} (he1 : Ext F (KB K env β) μ w F1 μ1 w) (hs : CallSem P fid vs w (Ends F1 (KB K env β) μ1 w R))
    (hU : ∀ s, U s → U' s) (hk : ∀ r s, R r s → k (putE env o.dst r) s) : o.wp P a w (Post B n F K μ w U' k) Q := by
  unfold CallSem at hs
  rw [← hrun] at hs
  unfold Oper.wp
  generalize (execOp a.eval o).run P w = res at hs
  have fin : ∀ (v : Value) (w' : World), Ends F1 (KB K env β) μ1 w R v w' → Post B n F K μ w U' k (a.put o.dst v) w' := by
    rintro v w' ⟨r, σ', F', μ', h1, h2, h3, h4⟩
    have he := he1.trans h4
    exact ⟨F', μ', β, _, σ', hk r σ' h1, ((hr.ext he h3).put (EVo.of_rv h2) hd).monoU hU, he.monoK fun _ h => .inl h⟩
  cases res with
  | ok nx w' =>
    cases nx <;> simp only at hs
    case value v => exact fin v w' hs
    case enter g as => exact hs.mono fun e w'' ⟨v, he, hv⟩ => by subst he; exact fin v w'' hv
  | halt x w' => exact hs.elim

theorem step_call {o : Oper} {f : Operand} {args : List Operand} {ts : Array TypeId} {Fo : Opd} {As : List Opd} {k : Env → Heap → Prop} {Q : Exit → Act → World → Prop} (ho : o.op = .call { callee := .value f, args := args.toArray, argTypes := ts })
    (hf : opd B f = some Fo) (ha : args.mapM (opd B) = some As) (hr : Rel B n F K μ β U env σ a w) (hd : DstOk B n o.dst) (hnd : ∀ X ∈ As, ∀ t st off, X.ev env ≠ .dpt t st off)
    (hv : CallG P (Fo.ev env) (As.map (·.ev env)) σ fun r s => k (putE env o.dst r) s) (hU : ∀ s, U s → U' s) : o.wp P a w (Post B n F K μ w U' k) Q := by
  obtain ⟨fid, caps, args', σ1, R, e1, hg, hc, _, hk⟩ := hv
  have h1 := opd_ev hf hr
  rw [e1] at h1
  obtain ⟨vs, e2, hvs⟩ := clo_ev h1
  have hargs := (RVs.of_ev ha hr hnd).append hvs
  obtain ⟨F1, μ1, g1, g2, g3⟩ := hg F (KB K env β) μ w _ hargs hr.inv
  exact step_callsem hr hd (run_call ho rfl rfl e2 w) g3 (hc F1 (KB K env β) μ1 w _ g1 g2) hU hk

theorem step_callq {o : Oper} {f : Operand} {args : List Operand} {ts : Array TypeId} {Fo : Opd} {As : List Opd} {k : Env → Heap → Prop} {Q : Exit → Act → World → Prop} (ho : o.op = .call { callee := .value f, args := args.toArray, argTypes := ts })
    (hf : opd B f = some Fo) (ha : args.mapM (opd B) = some As) (hr : Rel B n F K μ β U env σ a w) (hd : DstOk B n o.dst) (hnd : ∀ X ∈ As, ∀ t st off, X.ev env ≠ .dpt t st off)
    (hv : CallQ P (Fo.ev env) (As.map (·.ev env)) σ fun r => k (putE env o.dst r) σ) (hU : ∀ s, U s → U' s) : o.wp P a w (Post B n F K μ w U' k) Q := by
  obtain ⟨fid, caps, r, e1, hc, hk⟩ := hv
  have h1 := opd_ev hf hr
  rw [e1] at h1
  obtain ⟨vs, e2, hvs⟩ := clo_ev h1
  have hargs := (RVs.of_ev ha hr hnd).append hvs
  exact step_callsem hr hd (run_call ho rfl rfl e2 w) (Ext.refl F (KB K env β) μ w) (hc F (KB K env β) μ w _ hargs hr.inv) hU (by rintro r' s ⟨rfl, rfl⟩; exact hk)

theorem run_eq_slice_nil' {t e : TypeId} (hu : P.underlying t = some (.slice e)) (d : Nat) (p : Option Addr) (l c : Nat) (w : World) : (Op.equalIn (d + 1) t (.slice p l c) (.slice none 0 0)).run P w = .ok p.isNone w := by
  cases p <;> simp [Op.equalIn, run_underlying hu]

theorem lenA_nil {x : AV} {m : Int} {l c : Nat} (h : lenA x = some m) (hv : EVo U env β F μ w x (.slice none l c)) : m = 0 := by
  unfold lenA at h
  split at h <;> simp at h
  · cases hv; simp at h; omega
  · exact h.symm
  · cases hv; simp at h; omega

theorem step_snil {o : Oper} {op : BinOp} {t t' e : TypeId} {x : Operand} {X : Opd} {neg : Bool} {k : Env → Heap → Prop} {Q : Exit → Act → World → Prop} (ho : o.op = .binOp op t x (.const (.slice none 0 0)) t')
    (hu : P.underlying t = some (.slice e)) (hop : (op = .eql ∧ neg = false) ∨ (op = .neq ∧ neg = true)) (hx : opd B x = some X) (hr : Rel B n F K μ β U env σ a w) (hd : DstOk B n o.dst)
    (hv : SnilG neg (X.ev env) fun r => k (putE env o.dst r) σ) (hU : ∀ s, U s → U' s) : o.wp P a w (Post B n F K μ w U' k) Q := by
  obtain ⟨m, hm, hk⟩ := hv
  have h1 := opd_ev hx hr
  obtain ⟨l, p, c, e1, rfl⟩ := lenA_ev hm h1
  have hbin : ∀ op, op = .eql ∨ op = .neq → binOp op t (.slice p l c) (.slice none 0 0) = (do pure (.bool ((← Op.equal t (.slice p l c) (.slice none 0 0)) != (op == .neq)))) := by
    rintro op (rfl | rfl) <;> simp [binOp, show (BinOp.eql == BinOp.neq) = false from rfl]
  have heq : (Op.equalIn (9999 + 1) t (.slice p l c) (.slice none 0 0)).run P w = .ok p.isNone w := run_eq_slice_nil' hu 9999 p l c w
  have hz : p.isNone = true → (l : Int) = 0 := by
    intro hp
    cases p with
    | some _ => cases hp
    | none => rw [e1] at h1; exact lenA_nil hm h1
  refine step_quiet hr hd (r := .bool (p.isNone != neg)) ⟨_, ?_, .sc _ rfl⟩ hU (hk _ hz)
  exact run_cmp ho hop (fun op => by rw [e1]; exact eqGuard_plain (by simp) (by simp) t w) (by rw [e1]; exact heq) (by rw [e1]; exact hbin)

end
end Go.Av

namespace Go.Av

section
variable {B : List Nat} {n : Nat} {F F' K : Nat → Prop} {μ μ' : Nat → Option Spot} {β : Nat → Nat} {U U' : Nat → Prop} {env : Env} {σ σ' : Heap} {a : Act} {w w' : World} {P : Program}

theorem okArg_all {as : List Opd} (h : (as.map (·.ev env)).all AV.okArg = true) : ∀ X ∈ as, ∀ t st off, X.ev env ≠ .dpt t st off := by
  intro X hX t st off he
  have := List.all_eq_true.1 h (X.ev env) (List.mem_map.2 ⟨X, hX, rfl⟩)
  rw [he] at this; cases this

theorem dst_ok_g {o : Oper} (h : dstOk B n o = true) (hn : o.guard.isSome = true) : DstOk B n o.dst := by
  intro t ht
  unfold dstOk at h
  rw [ht] at h
  have : o.guard.isNone = false := by cases hg : o.guard <;> simp [hg] at hn ⊢
  simp only [this, Bool.and_false, Bool.or_false, Bool.and_eq_true, decide_eq_true_eq, Bool.not_eq_true'] at h
  exact h

theorem dst_ok {o : Oper} (h : dstOk B n o = true) (hn : isNewOp o.op = false) : DstOk B n o.dst := by
  intro t ht
  unfold dstOk at h
  rw [ht] at h
  simp only [hn, Bool.false_and, Bool.or_false, Bool.and_eq_true, decide_eq_true_eq, Bool.not_eq_true'] at h
  exact h

/-- An operation's step is sound. -/
theorem op_sound {o : Oper} {io : IOp} {ops : Array Oper} {own : List Nat} {q : Bool} {ix nv : Nat} {k : Env → Heap → Prop} {Q : Exit → Act → World → Prop} (hdo : dstOk B n o = true) (hc : comp1 P B ops own q ix o = some io)
    (hr : Rel B n F K μ β U env σ a w) (hst : ¬ U (nv + ix)) (hU : ∀ s, U s ∨ s = nv + ix → U' s) (h : OpI P io o.dst env nv σ k) : o.wp P a w (Post B n F K μ w U' k) Q := by
  have hU1 : ∀ s, U s → U' s := fun s hs => hU s (.inl hs)
  have hc0 := hc
  unfold comp1 at hc
  split at hc <;> rename_i ho
  · simp only [Option.map_eq_some_iff] at hc; obtain ⟨X, hX, rfl⟩ := hc; exact (let ⟨_, hv, hk⟩ := h; step_quiet hr (dst_ok hdo (by rw [ho]; rfl)) (evalI_sound hc0 hr hv rfl) hU1 hk)
  · simp only [Option.map_eq_some_iff] at hc; obtain ⟨X, hX, rfl⟩ := hc; exact (let ⟨_, hv, hk⟩ := h; step_quiet hr (dst_ok hdo (by rw [ho]; rfl)) (evalI_sound hc0 hr hv rfl) hU1 hk)
  · simp only [Option.bind_eq_some_iff, Option.map_eq_some_iff] at hc
    obtain ⟨C, hC, X, hX, Y, hY, rfl⟩ := hc
    exact (let ⟨_, hv, hk⟩ := h; step_quiet hr (dst_ok hdo (by rw [ho]; rfl)) (evalI_sound hc0 hr hv rfl) hU1 hk)
  · -- binOp
    split at hc
    · split at hc
      · split at hc
        · simp only [Option.map_eq_some_iff] at hc; obtain ⟨X, hX, rfl⟩ := hc
          exact (let ⟨_, hv, hk⟩ := h; step_quiet hr (dst_ok hdo (by rw [ho]; rfl)) (evalI_sound hc0 hr hv rfl) hU1 hk)
        · cases hc
      · cases hc
    · split at hc
      · split at hc
        · simp only [Option.map_eq_some_iff] at hc; obtain ⟨X, hX, rfl⟩ := hc
          exact (let ⟨_, hv, hk⟩ := h; step_quiet hr (dst_ok hdo (by rw [ho]; rfl)) (evalI_sound hc0 hr hv rfl) hU1 hk)
        · cases hc
      · cases hc
    · split at hc
      · rename_i hop
        split at hc
        · rename_i hu
          simp only [Option.map_eq_some_iff] at hc; obtain ⟨X, hX, rfl⟩ := hc
          exact step_snil ho hu (opNeg hop) hX hr (dst_ok hdo (by rw [ho]; rfl)) h hU1
        · cases hc
      · cases hc
    · simp only [Option.bind_eq_some_iff] at hc
      obtain ⟨X, hX, Y, hY, hc⟩ := hc
      split at hc
      · cases hc; exact (let ⟨_, hv, hk⟩ := h; step_quiet hr (dst_ok hdo (by rw [ho]; rfl)) (evalI_sound hc0 hr hv rfl) hU1 hk)
      · cases hc; exact (let ⟨_, hv, hk⟩ := h; step_quiet hr (dst_ok hdo (by rw [ho]; rfl)) (evalI_sound hc0 hr hv rfl) hU1 hk)
      · split at hc
        · cases hc
          exact (let ⟨_, hv, hk⟩ := h; step_quiet hr (dst_ok hdo (by rw [ho]; rfl)) (evalI_sound hc0 hr hv rfl) hU1 hk)
        · split at hc
          · cases hc
            exact (let ⟨_, hv, hk⟩ := h; step_quiet hr (dst_ok hdo (by rw [ho]; rfl)) (evalI_sound hc0 hr hv rfl) hU1 hk)
          · cases hc
      · split at hc
        · simp only [Option.map_eq_some_iff] at hc
          obtain ⟨ls, hls, rfl⟩ := hc
          exact (let ⟨_, hv, hk⟩ := h; step_quiet hr (dst_ok hdo (by rw [ho]; rfl)) (evalI_sound hc0 hr hv rfl) hU1 hk)
        · cases hc
      · split at hc
        · simp only [Option.map_eq_some_iff] at hc
          obtain ⟨ls, hls, rfl⟩ := hc
          exact (let ⟨_, hv, hk⟩ := h; step_quiet hr (dst_ok hdo (by rw [ho]; rfl)) (evalI_sound hc0 hr hv rfl) hU1 hk)
        · cases hc
      · cases hc
  · -- unOp
    split at hc
    · simp only [Option.map_eq_some_iff] at hc; obtain ⟨X, hX, rfl⟩ := hc
      exact (let ⟨_, hv, hk⟩ := h; step_quiet hr (dst_ok hdo (by rw [ho]; rfl)) (evalI_sound hc0 hr hv rfl) hU1 hk)
    · cases hc
  · -- convert
    split at hc
    · simp only [Option.map_eq_some_iff] at hc; obtain ⟨X, hX, rfl⟩ := hc
      exact (let ⟨_, hv, hk⟩ := h; step_quiet hr (dst_ok hdo (by rw [ho]; rfl)) (evalI_sound hc0 hr hv rfl) hU1 hk)
    · simp only [Option.map_eq_some_iff] at hc; obtain ⟨X, hX, rfl⟩ := hc
      exact (let ⟨_, hv, hk⟩ := h; step_quiet hr (dst_ok hdo (by rw [ho]; rfl)) (evalI_sound hc0 hr hv rfl) hU1 hk)
    · cases hc
  · -- build
    split at hc
    · simp only [Option.bind_eq_some_iff, Option.map_eq_some_iff] at hc
      obtain ⟨ps, hps, z, hz, q', hq', rfl⟩ := hc
      exact (let ⟨_, hv, hk⟩ := h; step_quiet hr (dst_ok hdo (by rw [ho]; rfl)) (evalI_sound hc0 hr hv rfl) hU1 hk)
    · simp only [Option.bind_eq_some_iff, Option.map_eq_some_iff] at hc
      obtain ⟨sz, hs, z, hz, q', hq', rfl⟩ := hc
      exact (let ⟨_, hv, hk⟩ := h; step_quiet hr (dst_ok hdo (by rw [ho]; rfl)) (evalI_sound hc0 hr hv rfl) hU1 hk)
    · cases hc
  · -- buildSlice
    split at hc
    · rename_i hu
      simp only [Option.bind_eq_some_iff] at hc
      obtain ⟨sz, hs, z, hz, els, hels, hc⟩ := hc
      split at hc
      · rename_i hcc
        obtain ⟨c1, c2, c3⟩ := hcc
        have hdd := dst_ok hdo (by rw [ho]; rfl)
        cases hown : ownd own o.dst with
        | true =>
          simp only [hown, if_true, Option.some.injEq] at hc
          subst hc
          exact step_bsliceO ho hu hs hz hels c1 c2 c3 hr hdd h.1 hU1 h.2
        | false =>
          simp only [hown, Bool.false_eq_true, if_false, Option.some.injEq] at hc
          subst hc
          obtain ⟨r, hv, hk⟩ := h
          exact step_bslice ho hu hs hz hels c1 c2 c3 hr hdd hv hU1 hk
      · cases hc
    · cases hc
  · -- field
    split at hc
    · simp only [Option.bind_eq_some_iff, Option.map_eq_some_iff] at hc
      obtain ⟨f, hf, sz, hs, ag, ha, X, hX, rfl⟩ := hc
      exact (let ⟨_, hv, hk⟩ := h; step_quiet hr (dst_ok hdo (by rw [ho]; rfl)) (evalI_sound hc0 hr hv rfl) hU1 hk)
    · cases hc
  · -- index
    split at hc
    · simp only [Option.bind_eq_some_iff, Option.map_eq_some_iff] at hc
      obtain ⟨sz, hs, ag, ha, X, hX, I, hI, rfl⟩ := hc
      exact (let ⟨_, hv, hk⟩ := h; step_quiet hr (dst_ok hdo (by rw [ho]; rfl)) (evalI_sound hc0 hr hv rfl) hU1 hk)
    · simp only [Option.bind_eq_some_iff, Option.map_eq_some_iff] at hc
      obtain ⟨X, hX, I, hI, rfl⟩ := hc
      exact (let ⟨_, hv, hk⟩ := h; step_quiet hr (dst_ok hdo (by rw [ho]; rfl)) (evalI_sound hc0 hr hv rfl) hU1 hk)
    · cases hc
  · -- extract
    simp only [Option.map_eq_some_iff] at hc; obtain ⟨X, hX, rfl⟩ := hc
    exact (let ⟨_, hv, hk⟩ := h; step_quiet hr (dst_ok hdo (by rw [ho]; rfl)) (evalI_sound hc0 hr hv rfl) hU1 hk)
  · -- slice
    split at hc
    · simp only [Option.bind_eq_some_iff, Option.map_eq_some_iff] at hc
      obtain ⟨sz, hs, X, hX, L, hL, H, hH, rfl⟩ := hc
      exact (let ⟨_, hv, hk⟩ := h; step_quiet hr (dst_ok hdo (by rw [ho]; rfl)) (evalI_sound hc0 hr hv rfl) hU1 hk)
    · simp only [Option.bind_eq_some_iff, Option.map_eq_some_iff] at hc
      obtain ⟨X, hX, L, hL, H, hH, rfl⟩ := hc
      exact (let ⟨_, hv, hk⟩ := h; step_quiet hr (dst_ok hdo (by rw [ho]; rfl)) (evalI_sound hc0 hr hv rfl) hU1 hk)
    · cases hc
  · -- slice0
    split at hc
    · simp only [Option.bind_eq_some_iff, Option.map_eq_some_iff] at hc
      obtain ⟨se, hse, X, hX, H, hH, M, hM, rfl⟩ := hc
      exact (let ⟨_, hv, hk⟩ := h; step_quiet hr (dst_ok hdo (by rw [ho]; rfl)) (evalI_sound hc0 hr hv rfl) hU1 hk)
    · cases hc
  · -- load
    simp only [Option.bind_eq_some_iff, Option.map_eq_some_iff] at hc
    obtain ⟨sz, hs, ag, ha, X, hX, rfl⟩ := hc
    exact (let ⟨_, hv, hk⟩ := h; step_quiet hr (dst_ok hdo (by rw [ho]; rfl)) (evalI_sound hc0 hr hv rfl) hU1 hk)
  · -- store
    simp only [Option.bind_eq_some_iff] at hc
    obtain ⟨sz, hs, hc⟩ := hc
    split at hc
    · cases hc
    · rename_i hsome
      have hdn : o.dst = none := by simpa using hsome
      simp only [Option.bind_eq_some_iff, Option.map_eq_some_iff] at hc
      obtain ⟨X, hX, Y, hY, rfl⟩ := hc
      revert h
      generalize rootOf B ops 20 _ = root
      intro h
      cases root with
      | none =>
        obtain ⟨s, hv, hk⟩ := h
        exact step_storeH ho hdn hs hX hY hr hv hU1 hk
      | some t =>
        obtain ⟨e, hv, hk⟩ := h
        exact step_storeB ho hdn hs hX hY hr hv hU1 hk
  · -- fieldAddr
    split at hc
    · simp only [Option.bind_eq_some_iff] at hc
      obtain ⟨f, hf, sz, hs, hc⟩ := hc
      split at hc
      · cases hc
      · simp only [Option.map_eq_some_iff] at hc; obtain ⟨X, hX, rfl⟩ := hc
        exact (let ⟨_, hv, hk⟩ := h; step_quiet hr (dst_ok hdo (by rw [ho]; rfl)) (evalI_sound hc0 hr hv rfl) hU1 hk)
    · cases hc
  · -- indexAddr
    split at hc
    · simp only [Option.bind_eq_some_iff, Option.map_eq_some_iff] at hc
      obtain ⟨sz, hs, X, hX, I, hI, rfl⟩ := hc
      exact (let ⟨_, hv, hk⟩ := h; step_quiet hr (dst_ok hdo (by rw [ho]; rfl)) (evalI_sound hc0 hr hv rfl) hU1 hk)
    · simp only [Option.bind_eq_some_iff, Option.map_eq_some_iff] at hc
      obtain ⟨sz, hs, X, hX, I, hI, rfl⟩ := hc
      exact (let ⟨_, hv, hk⟩ := h; step_quiet hr (dst_ok hdo (by rw [ho]; rfl)) (evalI_sound hc0 hr hv rfl) hU1 hk)
    · cases hc
  · -- alloc
    simp only [Option.map_eq_some_iff] at hc; obtain ⟨z, hz, rfl⟩ := hc
    obtain ⟨zv, h1, h2, h3⟩ := run_alloc (P := P) (a := a) ho hz F μ w
    cases hdst : o.dst with
    | none =>
      simp only [hdst] at h
      exact step_newvar hr (by rw [hdst]; intro t ht; cases ht) h1 h2 h3 hU1 (by rw [hdst]; exact h)
    | some d =>
      have hdo' := hdo
      unfold dstOk at hdo'
      rw [hdst] at hdo'
      simp only [Bool.and_eq_true, Bool.or_eq_true, decide_eq_true_eq, Bool.not_eq_true'] at hdo'
      cases hB : B.contains d with
      | true =>
        simp only [hdst, hB, if_true] at h
        obtain ⟨r, hv, hk⟩ := h
        cases hv
        exact step_newbox hr h1 h2 h3 hdst hdo'.1 hB hst hU hk
      | false =>
        simp only [hdst, hB, Bool.false_eq_true, if_false] at h
        exact step_newvar hr (by rw [hdst]; intro t ht; cases ht; exact ⟨hdo'.1, hB⟩) h1 h2 h3 hU1 (by rw [hdst]; exact h)
  · -- box
    rename_i ty x
    simp only [Option.map_eq_some_iff] at hc; obtain ⟨X, hX, rfl⟩ := hc
    have h1 := run_boxv (P := P) (a := a) ho w
    have h2 := opd_ev hX hr
    cases hdst : o.dst with
    | none =>
      simp only [hdst] at h
      exact step_newvar hr (by rw [hdst]; intro t ht; cases ht) h1 (h2.of_flat h.1) h.1 hU1 (by rw [hdst]; exact h.2)
    | some d =>
      have hdo' := hdo
      unfold dstOk at hdo'
      rw [hdst] at hdo'
      simp only [Bool.and_eq_true, Bool.or_eq_true, decide_eq_true_eq, Bool.not_eq_true'] at hdo'
      cases hB : B.contains d with
      | true =>
        simp only [hdst, hB, if_true] at h
        obtain ⟨r, hv, hk⟩ := h
        simp only [evalI] at hv
        split at hv
        · rename_i hf
          cases hv
          exact step_newbox hr h1 (h2.of_flat hf) hf hdst hdo'.1 hB hst hU hk
        · cases hv
      | false =>
        simp only [hdst, hB, Bool.false_eq_true, if_false] at h
        exact step_newvar hr (by rw [hdst]; intro t ht; cases ht; exact ⟨hdo'.1, hB⟩) h1 (h2.of_flat h.1) h.1 hU1 (by rw [hdst]; exact h.2)
  · -- makeFunc
    simp only [Option.map_eq_some_iff] at hc; obtain ⟨C, hC, rfl⟩ := hc
    exact (let ⟨_, hv, hk⟩ := h; step_quiet hr (dst_ok hdo (by rw [ho]; rfl)) (evalI_sound hc0 hr hv rfl) hU1 hk)
  · -- nilCheck
    simp only [Option.map_eq_some_iff] at hc; obtain ⟨X, hX, rfl⟩ := hc
    exact (let ⟨_, hv, hk⟩ := h; step_quiet hr (dst_ok hdo (by rw [ho]; rfl)) (evalI_sound hc0 hr hv rfl) hU1 hk)
  · -- makeSlice
    split at hc
    · rename_i hu
      simp only [Option.bind_eq_some_iff, Option.map_eq_some_iff] at hc
      obtain ⟨i, hi, z, hz, L, hL, C, hC, rfl⟩ := hc
      exact step_mks ho hu hi hz hL hC hr (dst_ok hdo (by rw [ho]; rfl)) h hU1
    · cases hc
  · -- call
    simp only [Option.bind_eq_some_iff, Option.map_eq_some_iff] at hc
    obtain ⟨f, hf, as, has, rfl⟩ := hc
    have hdd := dst_ok hdo (by rw [ho]; rfl)
    cases hq : q with
    | true =>
      simp only [hq, if_true] at h
      exact step_callq (by rw [ho]) hf has hr hdd (okArg_all h.1) h.2 hU1
    | false =>
      simp only [hq, Bool.false_eq_true, if_false] at h
      exact step_call (by rw [ho]) hf has hr hdd (okArg_all h.1) h.2 hU1
  · -- len
    split at hc
    · simp only [Option.map_eq_some_iff] at hc; obtain ⟨X, hX, rfl⟩ := hc
      exact (let ⟨_, hv, hk⟩ := h; step_quiet hr (dst_ok hdo (by rw [ho]; rfl)) (evalI_sound hc0 hr hv rfl) hU1 hk)
    · simp only [Option.map_eq_some_iff] at hc; obtain ⟨X, hX, rfl⟩ := hc
      exact (let ⟨_, hv, hk⟩ := h; step_quiet hr (dst_ok hdo (by rw [ho]; rfl)) (evalI_sound hc0 hr hv rfl) hU1 hk)
    · cases hc
      exact (let ⟨_, hv, hk⟩ := h; step_quiet hr (dst_ok hdo (by rw [ho]; rfl)) (evalI_sound hc0 hr hv rfl) hU1 hk)
    · cases hc
  · -- append
    split at hc
    · rename_i htu
      subst htu
      split at hc
      · rename_i hu
        simp only [Option.bind_eq_some_iff] at hc
        obtain ⟨i, hi, z, hz, hc⟩ := hc
        split at hc
        · simp only [Option.bind_eq_some_iff, Option.map_eq_some_iff] at hc
          obtain ⟨X, hX, Y, hY, rfl⟩ := hc
          exact step_app ho hu hi hz hX hY hr (dst_ok hdo (by rw [ho]; rfl)) h hU1
        · cases hc
      · cases hc
    · cases hc
  · -- copy
    split at hc
    · split at hc
      · simp only [Option.bind_eq_some_iff, Option.map_eq_some_iff] at hc
        obtain ⟨i, hi, X, hX, Y, hY, rfl⟩ := hc
        exact h.elim
      · cases hc
    · cases hc
  · -- clear
    split at hc
    · simp only [Option.bind_eq_some_iff, Option.map_eq_some_iff] at hc
      obtain ⟨i, hi, X, hX, rfl⟩ := hc
      exact h.elim
    · cases hc
  · -- max
    simp only [Option.bind_eq_some_iff, Option.map_eq_some_iff] at hc
    obtain ⟨X, hX, Y, hY, rfl⟩ := hc
    exact (let ⟨_, hv, hk⟩ := h; step_quiet hr (dst_ok hdo (by rw [ho]; rfl)) (evalI_sound hc0 hr hv rfl) hU1 hk)
  · -- min
    simp only [Option.bind_eq_some_iff, Option.map_eq_some_iff] at hc
    obtain ⟨X, hX, Y, hY, rfl⟩ := hc
    exact (let ⟨_, hv, hk⟩ := h; step_quiet hr (dst_ok hdo (by rw [ho]; rfl)) (evalI_sound hc0 hr hv rfl) hU1 hk)
  · cases hc

end
end Go.Av

namespace Go.Av

section
variable {B : List Nat} {n : Nat} {F F' K : Nat → Prop} {μ μ' : Nat → Option Spot} {β : Nat → Nat} {U U' : Nat → Prop} {env : Env} {σ σ' : Heap} {a : Act} {w w' : World} {P : Program}

/-- The operations in some order. -/
def RunL (P : Program) (nv : Nat) (l : List IOper) : List Nat → (Env → Heap → Prop) → Env → Heap → Prop
  | [], k, env, σ => k env σ
  | i :: L, k, env, σ =>
    match l[i]? with
    | none => False
    | some o => GuardG (guardA env o.g) (OpI P o.op o.dst env nv σ (RunL P nv l L k)) (RunL P nv l L k (putE env o.dst (.tup [])) σ)

theorem runI_runL (nv : Nat) (k : Env → Heap → Prop) : ∀ (l pre : List IOper) (env : Env) (σ : Heap), RunI P nv l k env σ = RunL P nv (pre ++ l) (List.range' pre.length l.length) k env σ
  | [], pre, env, σ => rfl
  | o :: l, pre, env, σ => by
    have hf : RunI P nv l k = RunL P nv (pre ++ o :: l) (List.range' (pre.length + 1) l.length) k := by
      funext env σ
      have := runI_runL nv k l (pre ++ [o]) env σ
      simp only [List.append_assoc, List.singleton_append, List.length_append, List.length_singleton] at this
      exact this
    simp only [List.length_cons, List.range'_succ, RunL, RunI]
    rw [List.getElem?_append_right (Nat.le_refl _), Nat.sub_self, List.getElem?_cons_zero, hf]

structure CompOk (P : Program) (B : List Nat) (n : Nat) (own : List Nat) (q : Bool) (ops : Array Oper) (l : List IOper) : Prop where
  len : l.length = ops.size
  op : ∀ i (o : Oper) (x : IOper), ops[i]? = some o → l[i]? = some x → x.dst = o.dst ∧ comp1 P B ops own q i o = some x.op ∧ compG B ops o.guard = some x.g ∧ dstOk B n o = true

theorem compOps_get {ops : Array Oper} {own : List Nat} {q : Bool} : ∀ (os : List Oper) (ix : Nat) (l : List IOper), compOps P B ops n own q ix os = some l →
    l.length = os.length ∧ ∀ i (o : Oper) (x : IOper), os[i]? = some o → l[i]? = some x → x.dst = o.dst ∧ comp1 P B ops own q (ix + i) o = some x.op ∧ compG B ops o.guard = some x.g ∧ dstOk B n o = true
  | [], ix, l, h => by cases h; exact ⟨rfl, fun i o x h => by simp at h⟩
  | o :: os, ix, l, h => by
    simp only [compOps] at h
    split at h
    · rename_i hd
      simp only [Option.bind_eq_some_iff, Option.map_eq_some_iff] at h
      obtain ⟨p, hp, g, hg, l', hl', rfl⟩ := h
      obtain ⟨h1, h2⟩ := compOps_get os (ix + 1) l' hl'
      refine ⟨by simp [h1], fun i o' x ho hx => ?_⟩
      cases i with
      | zero => simp at ho hx; subst ho; subst hx; exact ⟨rfl, hp, hg, hd⟩
      | succ i =>
        simp at ho hx
        have := h2 i o' x ho hx
        rw [show ix + (i + 1) = ix + 1 + i by omega]; exact this
    · cases h

theorem compOps_ok {ops : Array Oper} {own : List Nat} {q : Bool} {l : List IOper} (h : compOps P B ops n own q 0 ops.toList = some l) : CompOk P B n own q ops l := by
  obtain ⟨h1, h2⟩ := compOps_get ops.toList 0 l h
  refine ⟨by simpa using h1, fun i o x ho hx => ?_⟩
  have := h2 i o x (by simpa using ho) hx
  rwa [Nat.zero_add] at this

/-- The guard, in the model's own terms. -/
theorem guard_ok {ops : Array Oper} {o : Oper} {g : Option (Nat × Bool)} {c : Bool} (hg : compG B ops o.guard = some g) (hr : Rel B n F K μ β U env σ a w) (h : guardA env g = some c) : Region.wanted o (yielded ops a.tmps) = c := by
  unfold Region.wanted
  cases hgd : o.guard with
  | none =>
    rw [hgd] at hg
    cases hg
    cases h
    rfl
  | some jb =>
    obtain ⟨j, want⟩ := jb
    rw [hgd] at hg
    simp only [compG, Option.bind_eq_some_iff] at hg
    obtain ⟨d, hd, hg⟩ := hg
    obtain ⟨oj, hoj, hdj⟩ := hd
    split at hg
    · cases hg
    · cases hg
      simp only [guardA] at h
      have hv := hr.val d
      simp only
      unfold yielded
      rw [hoj]
      simp only [Option.bind_some, hdj]
      split at h
      · rename_i b he
        rw [he] at hv
        have hb : a.tmps.getD d undef = .bool b := by
          generalize a.tmps.getD d undef = u at hv
          cases hv; rfl
        have hq : a.tmps[d]? = some (.bool b) := by
          cases hq : a.tmps[d]? with
          | none => rw [Array.getD_eq_getD_getElem?, hq] at hb; cases hb
          | some u => rw [Array.getD_eq_getD_getElem?, hq] at hb; simp at hb; rw [hb]
        rw [hq]
        cases h
        cases b <;> cases want <;> rfl
      · rename_i he
        rw [he] at hv
        have hb : a.tmps.getD d undef = .tuple #[] := by
          generalize a.tmps.getD d undef = u at hv
          cases hv with
          | tup _ vs hl _ =>
            have := List.eq_nil_of_length_eq_zero hl
            subst this; rfl
        cases h
        cases hq : a.tmps[d]? with
        | none => rfl
        | some u =>
          rw [Array.getD_eq_getD_getElem?, hq] at hb
          simp at hb
          subst hb; rfl
      · cases h

theorem runL_sound {own : List Nat} {q : Bool} {ops : Array Oper} {l : List IOper} {nv : Nat} {k : Env → Heap → Prop} {Q : Exit → Act → World → Prop} (hc : CompOk P B n own q ops l) :
    ∀ (L : List Nat) (F : Nat → Prop) (μ : Nat → Option Spot) (β : Nat → Nat) (U : Nat → Prop) (env : Env) (σ : Heap) (a : Act) (w : World), L.Nodup → (∀ i ∈ L, ¬ U (nv + i)) → (∀ s, U s → s < nv + ops.size) → (∀ i ∈ L, i < ops.size) →
      Rel B n F K μ β U env σ a w → RunL P nv l L k env σ →
      (∀ F' μ' β' env' σ' a' w', k env' σ' → Rel B n F' K μ' β' (fun s => s < nv + ops.size) env' σ' a' w' → Ext F K μ w F' μ' w' → Q .normal a' w') → wpOps P ops Q L a w
  | [], F, μ, β, U, env, σ, a, w, _, _, hUb, _, hr, h, hQ => hQ F μ β env σ a w h (hr.monoU hUb) (Ext.refl F K μ w)
  | i :: L, F, μ, β, U, env, σ, a, w, hnd, hU, hUb, hL, hr, h, hQ => by
    have hi := hL i (by simp)
    have hil : i < l.length := by rw [hc.len]; exact hi
    obtain ⟨h1, h2, h3, h4⟩ := hc.op i ops[i] l[i] (Array.getElem?_eq_getElem hi) (List.getElem?_eq_getElem hil)
    simp only [RunL, List.getElem?_eq_getElem hil] at h
    obtain ⟨c, hg, hy, hn⟩ := h
    have hw := guard_ok h3 hr hg
    rw [List.nodup_cons] at hnd
    simp only [wpOps, Array.getElem?_eq_getElem hi, hw]
    cases c with
    | true =>
      rw [if_pos rfl]
      refine .inl ?_
      have hop := hy rfl
      rw [h1] at hop
      refine Oper.wp_mono (fun a' w' hp => ?_) (op_sound (U' := fun s => U s ∨ s = nv + i) (Q := Q) h4 h2 hr (hU i (by simp)) (fun s hs => hs) hop)
      obtain ⟨F', μ', β', env', σ', hk, hr', he⟩ := hp
      refine runL_sound hc L F' μ' β' _ env' σ' a' w' hnd.2 (fun j hj hs => ?_) (fun s hs => ?_) (fun j hj => hL j (by simp [hj])) hr' hk (fun F2 μ2 β2 env2 σ2 a2 w2 g1 g2 g3 => hQ F2 μ2 β2 env2 σ2 a2 w2 g1 g2 (he.trans g3))
      · rcases hs with hs | hs
        · exact hU j (by simp [hj]) hs
        · have : j = i := by omega
          subst this; exact hnd.1 hj
      · rcases hs with hs | hs
        · exact hUb s hs
        · omega
    | false =>
      simp only [Bool.false_eq_true, if_false]
      have hop := hn rfl
      rw [h1] at hop
      have hgs : (ops[i]).guard.isSome = true := by
        cases hgd : (ops[i]).guard with
        | none =>
          rw [hgd] at h3
          have : l[i].g = none := by simpa [compG] using h3.symm
          rw [this] at hg; cases hg
        | some _ => rfl
      exact runL_sound hc L F μ β U _ σ _ w hnd.2 (fun j hj => hU j (by simp [hj])) hUb (fun j hj => hL j (by simp [hj]))
        (hr.put (r := .tup []) (u := undef) (.tup [] [] rfl (fun i hi => absurd hi (Nat.not_lt_zero _))) (dst_ok_g h4 hgs)) hop hQ

end
end Go.Av

namespace Go.Av

section
variable {P : Program}

/-- Where an operation's value goes. -/
def wr1 (io : IOp) (dst : Option Nat) : Option Nat :=
  match io with
  | .store (some t) _ _ _ => some t
  | .store none _ _ _ => none
  | _ => dst

/-- What an operation of the frame alone yields. -/
def val0 (env : Env) (nv : Nat) : IOp → Option AV
  | .store (some t) sz p v => storeB t (env t) sz (v.ev env) (p.ev env)
  | op => evalI env nv (fun _ => none) op

/-- What an operation asks, over what it yields. -/
def TI (P : Program) (env : Env) (nv : Nat) (σ : Heap) (io : IOp) (J : AV → Heap → Prop) : Prop :=
  match io with
  | .store (some t) sz p v => Holds (storeB t (env t) sz (v.ev env) (p.ev env)) fun e => J e σ
  | .store none sz p v => Holds (storeH σ sz (v.ev env) (p.ev env)) fun s => J .any s
  | .new z => ∀ b, σ b = none → J (.ptr b 0 0) (upd σ b (some (.row z.cells.length [z])))
  | .hbox x => (x.ev env).flat = true ∧ ∀ b, σ b = none → J (.ptr b 0 0) (upd σ b (some (.row (x.ev env).cells.length [x.ev env])))
  | .bsliceO sz els => rowOk sz (els.map (·.ev env)) = true ∧ ∀ b, σ b = none → J (.row sz b 0 els.length) (upd σ b (some (.row sz (els.map (·.ev env)))))
  | .app sz bytes s x => AppG sz bytes (s.ev env) (x.ev env) σ J
  | .mks sz bytes z l c => MksG sz bytes z (l.ev env) (c.ev env) σ J
  | .call f as => (as.map (·.ev env)).all AV.okArg = true ∧ CallG P (f.ev env) (as.map (·.ev env)) σ J
  | .callq f as => (as.map (·.ev env)).all AV.okArg = true ∧ CallQ P (f.ev env) (as.map (·.ev env)) σ fun r => J r σ
  | .snil neg x => SnilG neg (x.ev env) fun r => J r σ
  | .cpy _ _ _ => False
  | .clr _ _ => False
  | op => Holds (evalI env nv σ op) fun v => J v σ

theorem opI_TI (io : IOp) (dst : Option Nat) (env : Env) (nv : Nat) (σ : Heap) (k : Env → Heap → Prop) : OpI P io dst env nv σ k = TI P env nv σ io fun r s => k (putE env (wr1 io dst) r) s := by
  cases io <;> try rfl
  rename_i root sz p v
  cases root <;> rfl

theorem CallG.mono {fv : AV} {args : List AV} {σ : Heap} {J J' : AV → Heap → Prop} (h : CallG P fv args σ J) (hj : ∀ r s, J r s → J' r s) : CallG P fv args σ J' := by
  obtain ⟨f, caps, args', σ', R, h1, h2, h3, h4, h5⟩ := h
  exact ⟨f, caps, args', σ', R, h1, h2, h3, h4, fun r s hr => hj r s (h5 r s hr)⟩

theorem TI.mono {io : IOp} {env : Env} {nv : Nat} {σ : Heap} {J J' : AV → Heap → Prop} (h : TI P env nv σ io J) (hj : ∀ r s, J r s → J' r s) : TI P env nv σ io J' := by
  unfold TI at *
  split at h
  case h_4 => exact ⟨h.1, fun b hb => hj _ _ (h.2 b hb)⟩
  case h_5 => exact ⟨h.1, fun b hb => hj _ _ (h.2 b hb)⟩
  case h_3 => exact fun b hb => hj _ _ (h b hb)
  case h_6 => obtain ⟨d, h1, xs, h2, h3, h4, h5⟩ := h; exact ⟨d, h1, xs, h2, h3, h4, fun c hc => hj _ _ (h5 c hc)⟩
  case h_7 => obtain ⟨d, h1, xs, h2, h3, h5⟩ := h; exact ⟨d, h1, xs, h2, h3, fun c hc => hj _ _ (h5 c hc)⟩
  case h_8 => exact ⟨h.1, h.2.mono hj⟩
  case h_9 => obtain ⟨h0, f, caps, r, h1, h2, h3⟩ := h; exact ⟨h0, f, caps, r, h1, h2, hj _ _ h3⟩
  case h_10 => obtain ⟨m, h1, h2⟩ := h; exact ⟨m, h1, fun b hb => hj _ _ (h2 b hb)⟩
  case h_11 => exact h
  case h_12 => exact h
  all_goals (obtain ⟨v, h1, h2⟩ := h; exact ⟨v, h1, hj _ _ h2⟩)

/-- Of the frame alone: one value, whatever the heap. -/
theorem TI.cls0 {io : IOp} (hc : io.cls = 0) (env : Env) (nv : Nat) (σ : Heap) (J : AV → Heap → Prop) : TI P env nv σ io J = Holds (val0 env nv io) fun v => J v σ := by
  cases io <;> first | rfl | (cases hc; done) | skip
  · rename_i op x; cases op <;> rfl
  · rename_i root sz ag p; cases root <;> first | rfl | (cases hc; done)
  · rename_i root off p; cases root <;> rfl
  · rename_i root len sz p i; cases root <;> rfl
  · rename_i root sz p v; cases root <;> first | rfl | (cases hc; done)

/-- At most reading the heap: a value, and the heap as it is. -/
theorem TI.cls1 {io : IOp} (hc : io.cls ≤ 1) {env : Env} {nv : Nat} {σ : Heap} {J : AV → Heap → Prop} (h : TI P env nv σ io J) : ∃ r, J r σ ∧ ∀ J' : AV → Heap → Prop, J' r σ → TI P env nv σ io J' := by
  by_cases h0 : io.cls = 0
  · rw [TI.cls0 h0] at h
    obtain ⟨v, h1, h2⟩ := h
    exact ⟨v, h2, fun J' h3 => by rw [TI.cls0 h0]; exact ⟨v, h1, h3⟩⟩
  · cases io <;> first | (exact absurd rfl h0) | (simp [IOp.cls] at hc; done) | skip
    · rename_i root sz ag p
      cases root with
      | none => obtain ⟨v, h1, h2⟩ := h; exact ⟨v, h2, fun J' h3 => ⟨v, h1, h3⟩⟩
      | some t => exact absurd rfl h0
    · rename_i root sz p v
      cases root <;> simp [IOp.cls] at hc h0
    · obtain ⟨h0, f, caps, r, h1, h2, h3⟩ := h
      exact ⟨r, h3, fun J' h4 => ⟨h0, f, caps, r, h1, h2, h4⟩⟩

/-- Something comes of it. -/
theorem TI.cls2 {io : IOp} (hc : io.cls ≤ 2) {env : Env} {nv : Nat} {σ : Heap} {J : AV → Heap → Prop} (h : TI P env nv σ io J) : ∃ r s, J r s := by
  by_cases h1 : io.cls ≤ 1
  · obtain ⟨r, h2, _⟩ := TI.cls1 h1 h; exact ⟨r, σ, h2⟩
  · cases io <;> first | (exact absurd (Nat.zero_le 1) h1) | (exact absurd (Nat.le_refl 1) h1) | (simp [IOp.cls] at hc; done) | skip
    · rename_i root sz ag p
      cases root
      · exact absurd (Nat.le_refl 1) h1
      · exact absurd (Nat.zero_le 1) h1
    · rename_i root sz p v
      cases root with
      | none => obtain ⟨v, h1, h2⟩ := h; exact ⟨_, _, h2⟩
      | some t => exact absurd (Nat.zero_le 1) h1
    · obtain ⟨m, h1, h2⟩ := h; exact ⟨_, _, h2 false (by simp)⟩
    · obtain ⟨_, f, caps, args', σ', R, h1, h2, h3, ⟨r, s, h4⟩, h5⟩ := h
      exact ⟨r, s, h5 r s h4⟩

theorem Opd.congr {x : Opd} {env env' : Env} (h : ∀ t ∈ x.rd, env' t = env t) : x.ev env' = x.ev env := by
  cases x with
  | t n => exact h n (by simp [Opd.rd])
  | b n => simp only [Opd.ev]; rw [h n (by simp [Opd.rd])]
  | c v => rfl

theorem Opd.congrL {l : List Opd} {env env' : Env} (h : ∀ t ∈ lRd l, env' t = env t) : l.map (·.ev env') = l.map (·.ev env) := by
  apply List.map_congr_left
  intro x hx
  exact Opd.congr fun t ht => h t (List.mem_flatMap.2 ⟨x, hx, ht⟩)

theorem Opd.congrO {x : Option Opd} {env env' : Env} (h : ∀ t ∈ oRd x, env' t = env t) : x.map (·.ev env') = x.map (·.ev env) := by
  cases x with
  | none => rfl
  | some x => simp only [Option.map_some]; rw [Opd.congr h]

theorem TI.congr {io : IOp} {env env' : Env} (h : ∀ t ∈ io.rd, env' t = env t) (nv : Nat) (σ : Heap) (J : AV → Heap → Prop) : TI P env' nv σ io J = TI P env nv σ io J := by
  cases io
  case mov x => simp only [TI, evalI]; rw [Opd.congr h]
  case pick a b c =>
    simp only [IOp.rd, List.mem_append] at h
    simp only [TI, evalI]; rw [Opd.congr (x := a) fun t ht => h t (.inl (.inl ht)), Opd.congr (x := b) fun t ht => h t (.inl (.inr ht)), Opd.congr (x := c) fun t ht => h t (.inr ht)]
  case slc0 a b c =>
    simp only [IOp.rd, List.mem_append] at h
    simp only [TI, evalI]; rw [Opd.congr (x := a) fun t ht => h t (.inl (.inl ht)), Opd.congr (x := b) fun t ht => h t (.inl (.inr ht)), Opd.congr (x := c) fun t ht => h t (.inr ht)]
  case un op x => cases op <;> simp only [TI, evalI] <;> rw [Opd.congr h]
  case build z ps =>
    simp only [TI, evalI]
    have : ps.map (fun p => (p.1, p.2.1, p.2.2.ev env')) = ps.map (fun p => (p.1, p.2.1, p.2.2.ev env)) := by
      apply List.map_congr_left
      intro p hp
      rw [Opd.congr fun t ht => h t (by simp only [IOp.rd]; exact List.mem_flatMap.2 ⟨p, hp, ht⟩)]
    rw [this]
  case slc sz x l hi =>
    simp only [IOp.rd, List.mem_append] at h
    simp only [TI, evalI]; rw [Opd.congr (x := x) fun t ht => h t (.inl (.inl ht)), Opd.congrO (x := l) fun t ht => h t (.inl (.inr ht)), Opd.congrO (x := hi) fun t ht => h t (.inr ht)]
  case sslc x l hi =>
    simp only [IOp.rd, List.mem_append] at h
    simp only [TI, evalI]; rw [Opd.congr (x := x) fun t ht => h t (.inl (.inl ht)), Opd.congrO (x := l) fun t ht => h t (.inl (.inr ht)), Opd.congrO (x := hi) fun t ht => h t (.inr ht)]
  case load r sz ag p =>
    simp only [IOp.rd, List.mem_append] at h
    cases r with
    | none => simp only [TI, evalI]; rw [Opd.congr (x := p) fun t ht => h t (.inl ht)]
    | some t => simp only [TI, evalI]; rw [Opd.congr (x := p) fun t ht => h t (.inl ht), h t (.inr (by simp))]
  case faddr r off p =>
    simp only [IOp.rd, List.mem_append] at h
    cases r with
    | none => simp only [TI, evalI]; rw [Opd.congr (x := p) fun t ht => h t (.inl ht)]
    | some t => simp only [TI, evalI]; rw [Opd.congr (x := p) fun t ht => h t (.inl ht), h t (.inr (by simp))]
  case iaddrA r len sz p i =>
    simp only [IOp.rd, List.mem_append] at h
    cases r with
    | none => simp only [TI, evalI]; rw [Opd.congr (x := p) fun t ht => h t (.inl (.inl ht)), Opd.congr (x := i) fun t ht => h t (.inl (.inr ht))]
    | some t => simp only [TI, evalI]; rw [Opd.congr (x := p) fun t ht => h t (.inl (.inl ht)), Opd.congr (x := i) fun t ht => h t (.inl (.inr ht)), h t (.inr (by simp))]
  case mkf f cs => simp only [TI, evalI]; rw [Opd.congrL h]
  case bslice sz cs => simp only [TI, evalI]; rw [Opd.congrL h]
  case bsliceO sz cs => simp only [TI]; rw [Opd.congrL h]
  case mx x ys =>
    simp only [IOp.rd, List.mem_append] at h
    simp only [TI, evalI, List.map_cons]; rw [Opd.congr (x := x) fun t ht => h t (.inl ht), Opd.congrL (l := ys) fun t ht => h t (.inr ht)]
  case mn x ys =>
    simp only [IOp.rd, List.mem_append] at h
    simp only [TI, evalI, List.map_cons]; rw [Opd.congr (x := x) fun t ht => h t (.inl ht), Opd.congrL (l := ys) fun t ht => h t (.inr ht)]
  case store r sz p v =>
    simp only [IOp.rd, List.mem_append] at h
    cases r with
    | none => simp only [TI]; rw [Opd.congr (x := p) fun t ht => h t (.inl (.inl ht)), Opd.congr (x := v) fun t ht => h t (.inl (.inr ht))]
    | some t => simp only [TI]; rw [Opd.congr (x := p) fun t ht => h t (.inl (.inl ht)), Opd.congr (x := v) fun t ht => h t (.inl (.inr ht)), h t (.inr (by simp))]
  case call f as =>
    simp only [IOp.rd, List.mem_append] at h
    simp only [TI]; rw [Opd.congr (x := f) fun t ht => h t (.inl ht), Opd.congrL (l := as) fun t ht => h t (.inr ht)]
  case callq f as =>
    simp only [IOp.rd, List.mem_append] at h
    simp only [TI]; rw [Opd.congr (x := f) fun t ht => h t (.inl ht), Opd.congrL (l := as) fun t ht => h t (.inr ht)]
  case const v => rfl
  case nbox => rfl
  case new => rfl
  case cpy => rfl
  case clr => rfl
  case hbox x => simp only [TI]; rw [Opd.congr h]
  case snil neg x => simp only [TI]; rw [Opd.congr h]
  all_goals
    first
    | (simp only [TI, evalI]; rw [Opd.congr h]; done)
    | (simp only [IOp.rd, List.mem_append] at h
       rename_i x y
       simp only [TI, evalI]
       rw [Opd.congr (x := x) fun t ht => h t (.inl ht), Opd.congr (x := y) fun t ht => h t (.inr ht)])

end
end Go.Av

namespace Go.Av

section
variable {P : Program}

/-- One operation, guard and all, over what it writes. -/
def TO (P : Program) (nv : Nat) (o : IOper) (env : Env) (σ : Heap) (J : Option Nat → AV → Heap → Prop) : Prop :=
  GuardG (guardA env o.g) (TI P env nv σ o.op fun r s => J (wr1 o.op o.dst) r s) (J o.dst (.tup []) σ)

theorem runL_TO (nv : Nat) (l : List IOper) (i : Nat) (L : List Nat) (k : Env → Heap → Prop) (env : Env) (σ : Heap) {o : IOper} (h : l[i]? = some o) :
    RunL P nv l (i :: L) k env σ = TO P nv o env σ fun d r s => RunL P nv l L k (putE env d r) s := by
  simp only [RunL, h, TO, opI_TI]

theorem TO.mono {nv : Nat} {o : IOper} {env : Env} {σ : Heap} {J J' : Option Nat → AV → Heap → Prop} (h : TO P nv o env σ J) (hj : ∀ d r s, (∀ t, d = some t → t ∈ o.wr) → J d r s → J' d r s) : TO P nv o env σ J' := by
  obtain ⟨c, h1, h2, h3⟩ := h
  refine ⟨c, h1, fun hc => (h2 hc).mono fun r s => hj _ r s ?_, fun hc => hj _ _ _ ?_ (h3 hc)⟩
  · intro t ht
    unfold wr1 at ht
    unfold IOper.wr
    split at ht
    · rename_i heq; cases ht; rw [heq]; simp
    · cases ht
    · rw [ht]; simp
  · intro t ht
    unfold IOper.wr
    rw [ht]; simp

theorem TO.congr {o : IOper} {env env' : Env} (h : ∀ t ∈ o.rd, env' t = env t) (nv : Nat) (σ : Heap) (J : Option Nat → AV → Heap → Prop) : TO P nv o env' σ J = TO P nv o env σ J := by
  simp only [IOper.rd, List.mem_append] at h
  have hg : guardA env' o.g = guardA env o.g := by
    cases hg : o.g with
    | none => rfl
    | some jb =>
      obtain ⟨j, b⟩ := jb
      simp only [guardA]
      rw [h j (.inr (by rw [hg]; simp))]
  unfold TO
  rw [hg, TI.congr (fun t ht => h t (.inl ht))]

theorem TO.cls0 {nv : Nat} {o : IOper} (hc : o.op.cls = 0) {env : Env} {σ : Heap} {J : Option Nat → AV → Heap → Prop} (h : TO P nv o env σ J) : ∃ d r, J d r σ ∧ ∀ σ' (J' : Option Nat → AV → Heap → Prop), (TO P nv o env σ' J' ↔ J' d r σ') := by
  obtain ⟨c, h1, h2, h3⟩ := h
  cases c with
  | true =>
    have h2 := h2 rfl
    rw [TI.cls0 hc] at h2
    obtain ⟨v, h4, h5⟩ := h2
    refine ⟨_, v, h5, fun σ' J' => ⟨fun ⟨c, g1, g2, _⟩ => ?_, fun hj => ⟨true, h1, fun _ => by rw [TI.cls0 hc]; exact ⟨v, h4, hj⟩, fun hc => by cases hc⟩⟩⟩
    rw [h1] at g1; cases g1
    have g2 := g2 rfl
    rw [TI.cls0 hc] at g2
    obtain ⟨v', g4, g5⟩ := g2
    rw [h4] at g4; cases g4; exact g5
  | false =>
    refine ⟨_, _, h3 rfl, fun σ' J' => ⟨fun ⟨c, g1, _, g3⟩ => ?_, fun hj => ⟨false, h1, fun hc => (by cases hc), fun _ => hj⟩⟩⟩
    rw [h1] at g1; cases g1
    exact g3 rfl

theorem TO.cls1 {nv : Nat} {o : IOper} (hc : o.op.cls ≤ 1) {env : Env} {σ : Heap} {J : Option Nat → AV → Heap → Prop} (h : TO P nv o env σ J) : ∃ d r, J d r σ ∧ ∀ J' : Option Nat → AV → Heap → Prop, J' d r σ → TO P nv o env σ J' := by
  obtain ⟨c, h1, h2, h3⟩ := h
  cases c with
  | true =>
    obtain ⟨r, h4, h5⟩ := TI.cls1 hc (h2 rfl)
    exact ⟨_, r, h4, fun J' hj => ⟨true, h1, fun _ => h5 (fun r s => J' _ r s) hj, fun hc => by cases hc⟩⟩
  | false => exact ⟨_, _, h3 rfl, fun J' hj => ⟨false, h1, fun hc => (by cases hc), fun _ => hj⟩⟩

theorem TO.cls2 {nv : Nat} {o : IOper} (hc : o.op.cls ≤ 2) {env : Env} {σ : Heap} {J : Option Nat → AV → Heap → Prop} (h : TO P nv o env σ J) : ∃ d r s, (∀ t, d = some t → t ∈ o.wr) ∧ J d r s := by
  have h' := h.mono (J' := fun d r s => (∀ t, d = some t → t ∈ o.wr) ∧ J d r s) (fun d r s h1 h2 => ⟨h1, h2⟩)
  obtain ⟨c, h1, h2, h3⟩ := h'
  cases c with
  | true => obtain ⟨r, s, h4⟩ := TI.cls2 hc (h2 rfl); exact ⟨_, r, s, h4⟩
  | false => exact ⟨_, _, _, h3 rfl⟩

theorem putE_comm {env : Env} {d d' : Option Nat} {r r' : AV} (h : ∀ t, d = some t → d' ≠ some t) : putE (putE env d r) d' r' = putE (putE env d' r') d r := by
  cases d with
  | none => rfl
  | some t =>
    cases d' with
    | none => rfl
    | some t' =>
      have hne : t ≠ t' := fun e => h t rfl (by rw [e])
      funext j
      simp only [putE_some, upd]
      by_cases h1 : j = t
      · by_cases h2 : j = t'
        · omega
        · simp [h1, hne]
      · simp [h1]

theorem putE_other {env : Env} {d : Option Nat} {r : AV} {t : Nat} (h : d ≠ some t) : putE env d r t = env t := by
  cases d with
  | none => rfl
  | some d => exact upd_ne _ _ (fun e => h (by rw [e]))

/-- Two operations that are apart may change places: what was shown in one order holds in the other. -/
theorem swap {nv : Nat} {y x : IOper} (ha : y.apart x = true) {env : Env} {σ : Heap} {k : Env → Heap → Prop} (h : TO P nv y env σ fun d r s => TO P nv x (putE env d r) s fun d' r' s' => k (putE (putE env d r) d' r') s') :
    TO P nv x env σ fun d' r' s' => TO P nv y (putE env d' r') s' fun d r s => k (putE (putE env d' r') d r) s := by
  simp only [IOper.apart, Bool.and_eq_true, Bool.or_eq_true, beq_iff_eq, decide_eq_true_eq, List.all_eq_true, Bool.not_eq_true', List.contains_eq_mem, decide_eq_false_iff_not] at ha
  obtain ⟨⟨h1, h2⟩, hcls⟩ := ha
  have hx : ∀ d r s J, (∀ t, d = some t → t ∈ y.wr) → TO P nv x (putE env d r) s J = TO P nv x env s J := fun d r s J hd =>
    TO.congr (fun t ht => putE_other (fun e => (h1 t (hd t e)).1 ht)) nv s J
  have hy : ∀ d r s J, (∀ t, d = some t → t ∈ x.wr) → TO P nv y (putE env d r) s J = TO P nv y env s J := fun d r s J hd =>
    TO.congr (fun t ht => putE_other (fun e => h2 t (hd t e) ht)) nv s J
  have hcm : ∀ d r d' r', (∀ t, d = some t → t ∈ y.wr) → (∀ t, d' = some t → t ∈ x.wr) → putE (putE env d r) d' r' = putE (putE env d' r') d r := fun d r d' r' hd hd' =>
    putE_comm fun t e e' => (h1 t (hd t e)).2 (hd' t e')
  -- in both orders, over the frame as it was
  have h' : TO P nv y env σ fun d r s => (∀ t, d = some t → t ∈ y.wr) ∧ TO P nv x env s fun d' r' s' => (∀ t, d' = some t → t ∈ x.wr) ∧ k (putE (putE env d r) d' r') s' := by
    refine h.mono fun d r s hd hh => ⟨hd, ?_⟩
    rw [hx d r s _ hd] at hh
    exact hh.mono fun d' r' s' hd' hk => ⟨hd', hk⟩
  have fin : (TO P nv x env σ fun d' r' s' => (∀ t, d' = some t → t ∈ x.wr) ∧ TO P nv y env s' fun d r s => (∀ t, d = some t → t ∈ y.wr) ∧ k (putE (putE env d r) d' r') s) →
      TO P nv x env σ fun d' r' s' => TO P nv y (putE env d' r') s' fun d r s => k (putE (putE env d' r') d r) s := by
    intro hh
    refine hh.mono fun d' r' s' hd' hk => ?_
    rw [hy d' r' s' _ hd']
    refine hk.2.mono fun d r s hd hk => ?_
    rw [← hcm d r d' r' hd hd']; exact hk.2
  apply fin
  rcases hcls with (hc | ⟨hc, hc2⟩) | ⟨hc1, hc2⟩
  · -- the first is of the frame alone
    obtain ⟨d, r, ⟨hd, hh⟩, hiff⟩ := TO.cls0 hc h'
    refine hh.mono fun d' r' s' _ hk => ⟨hk.1, ?_⟩
    exact (hiff s' _).2 ⟨hd, hk.2⟩
  · -- the second is
    obtain ⟨d, r, s, _, hd, hh⟩ := TO.cls2 hc2 h'
    obtain ⟨d', r', ⟨hd', _⟩, hiff⟩ := TO.cls0 hc hh
    refine (hiff σ _).2 ⟨hd', ?_⟩
    refine h'.mono fun d r s _ hk => ⟨hk.1, ?_⟩
    exact ((hiff s _).1 hk.2).2
  · -- both leave the heap as it is
    obtain ⟨d, r, ⟨hd, hh⟩, hy1⟩ := TO.cls1 hc1 h'
    obtain ⟨d', r', ⟨hd', hk⟩, hx1⟩ := TO.cls1 hc2 hh
    exact hx1 _ ⟨hd', hy1 _ ⟨hd, hk⟩⟩

theorem runL_mono {nv : Nat} {l : List IOper} {k k' : Env → Heap → Prop} (hk : ∀ e s, k e s → k' e s) : ∀ (L : List Nat) (env : Env) (σ : Heap), RunL P nv l L k env σ → RunL P nv l L k' env σ
  | [], env, σ, h => hk _ _ h
  | i :: L, env, σ, h => by
    cases ho : l[i]? with
    | none => simp [RunL, ho] at h
    | some o =>
      rw [runL_TO nv l i L _ env σ ho] at h ⊢
      exact h.mono fun d r s _ hh => runL_mono hk L _ _ hh

theorem runL_append {nv : Nat} {l : List IOper} {k : Env → Heap → Prop} : ∀ (A C : List Nat) (env : Env) (σ : Heap), RunL P nv l (A ++ C) k env σ = RunL P nv l A (RunL P nv l C k) env σ
  | [], C, env, σ => rfl
  | i :: A, C, env, σ => by
    cases ho : l[i]? with
    | none => simp [RunL, ho]
    | some o =>
      rw [List.cons_append, runL_TO nv l i _ _ env σ ho, runL_TO nv l i A _ env σ ho]
      congr 1
      funext d r s
      exact runL_append A C _ _

/-- One that is apart from all ahead of it may come first. -/
theorem bubble {nv : Nat} {l : List IOper} {k : Env → Heap → Prop} {x : Nat} {ox : IOper} (hx : l[x]? = some ox) : ∀ (A : List Nat) (C : List Nat) (env : Env) (σ : Heap),
    (∀ y ∈ A, ∃ oy, l[y]? = some oy ∧ oy.apart ox = true) → RunL P nv l (A ++ x :: C) k env σ → RunL P nv l (x :: (A ++ C)) k env σ
  | [], C, env, σ, _, h => h
  | y :: A, C, env, σ, ha, h => by
    obtain ⟨oy, hy, hap⟩ := ha y (by simp)
    rw [List.cons_append, runL_TO nv l y _ _ env σ hy] at h
    have h1 : TO P nv oy env σ fun d r s => TO P nv ox (putE env d r) s fun d' r' s' => RunL P nv l (A ++ C) k (putE (putE env d r) d' r') s' := by
      refine h.mono fun d r s _ hh => ?_
      have := bubble hx A C _ _ (fun z hz => ha z (by simp [hz])) hh
      rw [runL_TO nv l x _ _ _ _ hx] at this
      exact this
    have h2 := swap hap h1
    rw [runL_TO nv l x _ _ env σ hx]
    refine h2.mono fun d r s _ hh => ?_
    rw [List.cons_append, runL_TO nv l y _ _ _ _ hy]
    exact hh

/-- **What was shown in one order holds in every order that the edges let.** -/
theorem reorder {nv : Nat} {l : List IOper} {k : Env → Heap → Prop} {anc : Nat → Nat → Prop} : ∀ (L R : List Nat) (env : Env) (σ : Heap), L.Perm R → R.Nodup →
    (∀ x ∈ R, x < l.length) → R.Pairwise (fun y x => anc y x ∨ ∃ oy ox, l[y]? = some oy ∧ l[x]? = some ox ∧ oy.apart ox = true) → L.Pairwise (fun x y => ¬ anc y x) →
    RunL P nv l R k env σ → RunL P nv l L k env σ
  | [], R, env, σ, hp, _, _, _, _, h => by
    have : R = [] := hp.nil_eq.symm
    subst this; exact h
  | x :: L, R, env, σ, hp, hnd, hlt, hR, hL, h => by
    have hxR : x ∈ R := hp.subset (by simp)
    obtain ⟨A, C, rfl⟩ := List.append_of_mem hxR
    have hxl := hlt x hxR
    have hp' : L.Perm (A ++ C) := by
      have h1 : (x :: L).Perm (x :: (A ++ C)) := hp.trans List.perm_middle
      exact List.Perm.cons_inv h1
    rw [List.pairwise_cons] at hL
    have hap : ∀ y ∈ A, ∃ oy, l[y]? = some oy ∧ oy.apart l[x] = true := by
      intro y hy
      rw [List.pairwise_append] at hR
      rcases hR.2.2 y hy x (by simp) with h1 | ⟨oy, ox, h1, h2, h3⟩
      · exact absurd h1 (hL.1 y (hp'.symm.subset (by simp [hy])))
      · rw [List.getElem?_eq_getElem hxl] at h2; cases h2
        exact ⟨oy, h1, h3⟩
    have hb := bubble (List.getElem?_eq_getElem hxl) A C env σ hap h
    rw [runL_TO nv l x _ _ env σ (List.getElem?_eq_getElem hxl)] at hb ⊢
    have hsub : (A ++ C).Sublist (A ++ x :: C) := List.Sublist.append (List.Sublist.refl _) (List.sublist_cons_self _ _)
    refine hb.mono fun d r s _ hh => ?_
    exact reorder L (A ++ C) _ _ hp' (hnd.sublist hsub) (fun z hz => hlt z (hsub.subset hz)) (hR.sublist hsub) hL.2 hh

end
end Go.Av

namespace Go.Av

/-- By the edges, one operation stands ahead of another. -/
inductive Anc (ops : List Oper) : Nat → Nat → Prop
  | edge (x : Nat) (o : Oper) (e : Edge) (ho : ops[x]? = some o) (he : e ∈ o.after.toList) (hb : Region.binds .any e = true) : Anc ops e.on x
  | step (x y : Nat) (o : Oper) (e : Edge) (ho : ops[x]? = some o) (he : e ∈ o.after.toList) (hb : Region.binds .any e = true) (h : Anc ops y e.on) : Anc ops y x

theorem ancFold_spec (acc : List Nat) : ∀ (es : List Edge) (s y : Nat), (es.foldl (fun s e => if Region.binds .any e then s ||| 2 ^ e.on ||| (acc[e.on]?).getD 0 else s) s).testBit y = true →
    s.testBit y = true ∨ ∃ e ∈ es, Region.binds .any e = true ∧ (e.on = y ∨ ((acc[e.on]?).getD 0).testBit y = true)
  | [], s, y, h => .inl h
  | e :: es, s, y, h => by
    rw [List.foldl_cons] at h
    rcases ancFold_spec acc es _ y h with h1 | ⟨e', h1, h2, h3⟩
    · split at h1
      · rename_i hb
        rw [Nat.testBit_or, Nat.testBit_or, Nat.testBit_two_pow] at h1
        simp only [Bool.or_eq_true, decide_eq_true_eq] at h1
        rcases h1 with (h1 | h1) | h1
        · exact .inl h1
        · exact .inr ⟨e, by simp, hb, .inl h1⟩
        · exact .inr ⟨e, by simp, hb, .inr h1⟩
      · exact .inl h1
    · exact .inr ⟨e', by simp [h1], h2, h3⟩

theorem ancs_spec (ops : List Oper) : ∀ (os pre : List Oper) (acc : List Nat), ops = pre ++ os → acc.length = pre.length → (∀ x y, ((acc[x]?).getD 0).testBit y = true → Anc ops y x) →
    ∀ x y, (((os.foldl ancStep acc)[x]?).getD 0).testBit y = true → Anc ops y x
  | [], pre, acc, _, _, h => h
  | o :: os, pre, acc, heq, hl, h => by
    rw [List.foldl_cons]
    refine ancs_spec ops os (pre ++ [o]) _ (by simp [heq]) (by simp [ancStep, hl]) (fun x y hxy => ?_)
    unfold ancStep at hxy
    by_cases hx : x < acc.length
    · rw [List.getElem?_append_left hx] at hxy; exact h x y hxy
    · rw [List.getElem?_append_right (by omega)] at hxy
      by_cases hx' : x = acc.length
      · subst hx'
        simp only [Nat.sub_self, List.getElem?_cons_zero, Option.getD_some] at hxy
        have ho : ops[acc.length]? = some o := by rw [heq, hl, List.getElem?_append_right (Nat.le_refl _), Nat.sub_self]; rfl
        rcases ancFold_spec acc _ 0 y hxy with h1 | ⟨e, h1, h2, h3⟩
        · simp at h1
        · rcases h3 with rfl | h3
          · exact .edge _ o e ho h1 h2
          · exact .step _ y o e ho h1 h2 (h _ _ h3)
      · rw [List.getElem?_eq_none (by simp; omega)] at hxy
        simp at hxy

theorem ancs_sound {ops : List Oper} {x y : Nat} (h : (((ancs ops)[x]?).getD 0).testBit y = true) : Anc ops y x :=
  ancs_spec ops ops [] [] rfl rfl (fun x y h => by simp at h) x y h

section
variable {ops : Array Oper}

/-- What has come up: with each operation all that stand ahead of it. -/
def Closed (ops : Array Oper) (listed : Array Bool) : Prop :=
  ∀ x (o : Oper), ops[x]? = some o → listed.getD x false = true → ∀ e ∈ o.after.toList, Region.binds .any e = true → listed.getD e.on false = true

theorem Closed.anc {listed : Array Bool} (h : Closed ops listed) {x y : Nat} (ha : Anc ops.toList y x) (hx : listed.getD x false = true) : listed.getD y false = true := by
  induction ha with
  | edge x o e ho he hb => exact h x o (by simpa using ho) hx e he hb
  | step x y o e ho he hb _ ih => exact ih (h x o (by simpa using ho) hx e he hb)

theorem getD_set {α : Type} (l : Array α) (i j : Nat) (v d : α) (hi : i < l.size) : (l.setIfInBounds i v).getD j d = if j = i then v else l.getD j d := by
  simp only [Array.getD_eq_getD_getElem?, Array.getElem?_setIfInBounds]
  by_cases h : i = j
  · subst h; simp [hi]
  · rw [if_neg h, if_neg (fun e => h e.symm)]

theorem getD_dflt {l : Array Bool} {j : Nat} (hj : j < l.size) (d d' : Bool) : l.getD j d = l.getD j d' := by
  simp [hj]

def unl (n : Nat) (listed : Array Bool) : List Nat := (List.range n).filter fun i => !listed.getD i true

theorem mem_unl {n : Nat} {listed : Array Bool} {i : Nat} : i ∈ unl n listed ↔ i < n ∧ listed.getD i true = false := by simp [unl]

theorem unl_nodup (n : Nat) (listed : Array Bool) : (unl n listed).Nodup := List.nodup_range.sublist List.filter_sublist

theorem go_spec (hback : backB ops.toList = true) : ∀ (fuel t : Nat) (listed : Array Bool), listed.size = ops.size → Closed ops listed → (unl ops.size listed).length = fuel →
    (Region.linearise.go .any ops fuel t listed []).Perm (unl ops.size listed) ∧ (Region.linearise.go .any ops fuel t listed []).Pairwise (fun x y => ¬ Anc ops.toList y x)
  | 0, t, listed, _, _, hf => by
    have : unl ops.size listed = [] := List.eq_nil_of_length_eq_zero hf
    rw [this]
    exact ⟨by simp [Region.linearise.go], by simp [Region.linearise.go]⟩
  | fuel + 1, t, listed, hs, hc, hf => by
    -- the least that has not come up may come up
    have hrs : Region.ready .any ops listed ≠ [] := by
      intro h0
      have key : ∀ i, i < ops.size → listed.getD i false = true := by
        intro i
        induction i using Nat.strongRecOn with
        | _ i ih =>
          intro hi
          cases hl : listed.getD i false with
          | true => rfl
          | false =>
            exfalso
            have : i ∈ Region.ready .any ops listed := by
              refine mem_ready.2 ⟨by rw [getD_dflt (by omega) true false]; exact hl, ops[i], Array.getElem?_eq_getElem hi, fun e he hb => ?_⟩
              have hbk := List.all_eq_true.1 hback (ops[i], i) (by
                rw [List.mem_zipIdx_iff_getElem?]
                simp [hi])
              have := List.all_eq_true.1 hbk e (by simpa using he)
              simp only [hb, Bool.not_true, Bool.false_or, decide_eq_true_eq] at this
              exact ih e.on this (by omega)
            rw [h0] at this; cases this
      have : unl ops.size listed = [] := by
        apply List.eq_nil_iff_forall_not_mem.2
        intro i hi
        obtain ⟨h1, h2⟩ := mem_unl.1 hi
        rw [getD_dflt (by omega) true false, key i h1] at h2; cases h2
      rw [this] at hf; simp at hf
    have hlen : 0 < (Region.ready .any ops listed).length := List.length_pos_iff.2 hrs
    have hidx : t % (Region.ready .any ops listed).length < (Region.ready .any ops listed).length := Nat.mod_lt _ hlen
    obtain ⟨i, hi⟩ : ∃ i, (Region.ready .any ops listed)[t % (Region.ready .any ops listed).length]? = some i := ⟨_, List.getElem?_eq_getElem hidx⟩
    have hir : i ∈ Region.ready .any ops listed := List.mem_of_getElem? hi
    obtain ⟨hiu, oi, hoi, hdeps⟩ := mem_ready.1 hir
    have hin : i < ops.size := (Array.getElem?_eq_some_iff.1 hoi).1
    have hgo : Region.linearise.go .any ops (fuel + 1) t listed [] = i :: Region.linearise.go .any ops fuel (t / (Region.ready .any ops listed).length) (listed.setIfInBounds i true) [] := by
      simp only [Region.linearise.go]
      change (match (Region.ready .any ops listed)[t % (Region.ready .any ops listed).length]? with
        | some i => Region.linearise.go .any ops fuel (t / (Region.ready .any ops listed).length) (listed.setIfInBounds i true) [i]
        | none => [].reverse) = _
      rw [hi]
      simp only
      rw [linearise_go_acc]
      rfl
    have hmem' : ∀ j, j ∈ unl ops.size (listed.setIfInBounds i true) ↔ j ≠ i ∧ j ∈ unl ops.size listed := by
      intro j
      rw [mem_unl, mem_unl, getD_set _ _ _ _ _ (by omega)]
      by_cases hji : j = i
      · simp [hji]
      · simp [hji]
    have hperm : (i :: unl ops.size (listed.setIfInBounds i true)).Perm (unl ops.size listed) := by
      refine (List.perm_ext_iff_of_nodup ?_ (unl_nodup _ _)).2 fun j => ?_
      · rw [List.nodup_cons]
        exact ⟨fun h => ((hmem' i).1 h).1 rfl, unl_nodup _ _⟩
      · rw [List.mem_cons, hmem']
        constructor
        · rintro (rfl | ⟨_, h⟩)
          · exact mem_unl.2 ⟨hin, hiu⟩
          · exact h
        · intro h
          by_cases hji : j = i
          · exact .inl hji
          · exact .inr ⟨hji, h⟩
    have hc' : Closed ops (listed.setIfInBounds i true) := by
      intro x o hx hlx e he hb
      rw [getD_set _ _ _ _ _ (by omega)] at hlx ⊢
      split
      · rfl
      · split at hlx
        · rename_i hxi
          subst hxi
          rw [hoi] at hx; cases hx
          exact hdeps e (by simpa using he) hb
        · exact hc x o hx hlx e he hb
    have hl' : (unl ops.size (listed.setIfInBounds i true)).length = fuel := by
      have := hperm.length_eq
      simp only [List.length_cons] at this
      omega
    obtain ⟨h1, h2⟩ := go_spec hback fuel (t / (Region.ready .any ops listed).length) (listed.setIfInBounds i true) (by simp [hs]) hc' hl'
    rw [hgo]
    refine ⟨(h1.cons i).trans hperm, ?_⟩
    rw [List.pairwise_cons]
    refine ⟨fun y hy ha => ?_, h2⟩
    -- what stands ahead of i has come up
    have hyu := (hmem' y).1 (h1.subset hy)
    have : (listed.setIfInBounds i true).getD y false = true := hc'.anc ha (by rw [getD_set _ _ _ _ _ (by omega), if_pos rfl])
    rw [getD_set _ _ _ _ _ (by omega), if_neg hyu.1] at this
    have hy2 := (mem_unl.1 hyu.2).2
    rw [getD_dflt (by have := (mem_unl.1 hyu.2).1; omega) true false, this] at hy2
    cases hy2

theorem linearise_spec (hback : backB ops.toList = true) (t : Nat) :
    (Region.linearise .any ops t).Perm (List.range ops.size) ∧ (Region.linearise .any ops t).Pairwise (fun x y => ¬ Anc ops.toList y x) := by
  have hu : unl ops.size (Array.replicate ops.size false) = List.range ops.size := by
    unfold unl
    rw [List.filter_eq_self]
    intro i hi
    simp [List.mem_range.1 hi]
  have := go_spec hback ops.size t (Array.replicate ops.size false) (by simp) (fun x o hx hl => by
    rw [Array.getD_eq_getD_getElem?, Array.getElem?_replicate] at hl
    split at hl <;> simp at hl) (by rw [hu]; simp)
  rw [hu] at this
  exact this

end

theorem nodupB_spec : ∀ {l : List Nat}, nodupB l = true → l.Nodup
  | [], _ => List.nodup_nil
  | x :: l, h => by
    simp only [nodupB, Bool.and_eq_true, Bool.not_eq_true', List.contains_eq_mem, decide_eq_false_iff_not] at h
    exact List.nodup_cons.2 ⟨h.1, nodupB_spec h.2⟩

theorem permB_spec {n : Nat} {R : List Nat} (h : permB n R = true) : R.Perm (List.range n) ∧ R.Nodup ∧ ∀ x ∈ R, x < n := by
  simp only [permB, Bool.and_eq_true, List.all_eq_true, List.contains_eq_mem, decide_eq_true_eq, List.mem_range] at h
  obtain ⟨⟨h1, h2⟩, h3⟩ := h
  have hnd := nodupB_spec h1
  refine ⟨(List.perm_ext_iff_of_nodup hnd List.nodup_range).2 fun x => ⟨fun hx => List.mem_range.2 (h3 x hx), fun hx => h2 x (List.mem_range.1 hx)⟩, hnd, h3⟩

theorem pairOk_spec {ops : List Oper} {l : List IOper} : ∀ {R : List Nat}, pairOk (ancs ops) l R = true → R.Pairwise (fun y x => Anc ops y x ∨ ∃ oy ox, l[y]? = some oy ∧ l[x]? = some ox ∧ oy.apart ox = true)
  | [], _ => List.Pairwise.nil
  | y :: R, h => by
    simp only [pairOk, Bool.and_eq_true, List.all_eq_true, Bool.or_eq_true] at h
    refine List.pairwise_cons.2 ⟨fun x hx => ?_, pairOk_spec h.2⟩
    rcases h.1 x hx with h1 | h1
    · exact .inl (ancs_sound h1)
    · split at h1
      · exact .inr ⟨_, _, ‹_›, ‹_›, h1⟩
      · cases h1

end Go.Av

namespace Go.Av

section
variable {B : List Nat} {n : Nat} {P : Program}

theorem pick_runI {nv : Nat} {l : List IOper} {k : Env → Heap → Prop} : ∀ (R : List Nat) (env : Env) (σ : Heap), (∀ x ∈ R, x < l.length) → RunI P nv (pick l R) k env σ = RunL P nv l R k env σ
  | [], env, σ, _ => rfl
  | i :: R, env, σ, h => by
    have hi := h i (by simp)
    have hf : RunI P nv (pick l R) k = RunL P nv l R k := by
      funext env σ
      exact pick_runI R env σ fun x hx => h x (by simp [hx])
    have hp : pick l (i :: R) = l[i] :: pick l R := by
      unfold pick
      rw [List.filterMap_cons_some (by rw [List.getElem?_eq_getElem hi])]
    rw [hp]
    simp only [RunI, RunL, List.getElem?_eq_getElem hi, hf]

theorem pick_range (l : List IOper) : pick l (List.range l.length) = l := by
  have : ∀ (k : Nat), k ≤ l.length → (List.range k).filterMap (l[·]?) = l.take k := by
    intro k
    induction k with
    | zero => intro _; simp
    | succ k ih =>
      intro h
      have hk : k < l.length := h
      rw [List.range_succ, List.filterMap_append, ih (by omega), List.take_add_one]
      congr 1
  unfold pick
  rw [this _ (Nat.le_refl _), List.take_length]

/-- A region is sound. -/
theorem region_sound (hm : P.follows .mixedOrders = true) {own : List Nat} {ops : Array Oper} {draw : Bool} {l' : List IOper} {id : Nat} {F K : Nat → Prop} {μ : Nat → Option Spot} {β : Nat → Nat} {env : Env} {σ : Heap} {a : Act} {w : World} {nv : Nat}
    {k : Env → Heap → Prop} {Q : Exit → Act → World → Prop} (hc : compRegion P B n own ops draw = some l') (hr : Rel B n F K μ β (fun s => s < nv) env σ a w) (h : RunI P nv l' k env σ)
    (hQ : ∀ F' μ' β' env' σ' a' w', k env' σ' → Rel B n F' K μ' β' (fun s => s < nv + l'.length) env' σ' a' w' → Ext F K μ w F' μ' w' → Q .normal a' w') : (Code.region id ops draw).wp P Q a w := by
  have main : ∀ {q : Bool} {l : List IOper} {R L : List Nat} {w : World}, CompOk P B n own q ops l → l'.length = ops.size → L.Perm (List.range ops.size) → RunL P nv l L k env σ → Rel B n F K μ β (fun s => s < nv) env σ a w →
      (∀ F' μ' β' env' σ' a' w', k env' σ' → Rel B n F' K μ' β' (fun s => s < nv + l'.length) env' σ' a' w' → Ext F K μ w F' μ' w' → Q .normal a' w') → wpOps P ops Q L a w := by
    intro q l R L w hco hl hp hL hr hQ
    refine runL_sound hco L F μ β _ env σ a w (hp.symm.nodup List.nodup_range) (fun i hi hs => by omega) (fun s hs => by omega) (fun i hi => List.mem_range.1 (hp.subset hi)) hr hL ?_
    rw [← hl]; exact hQ
  unfold compRegion at hc
  split at hc
  · rename_i hd
    subst hd
    have hco := compOps_ok hc
    refine wp_region ?_
    have hl : l'.length = ops.size := hco.len
    refine main (R := []) hco hl (List.Perm.refl _) ?_ hr hQ
    have := runI_runL (P := P) nv k l' [] env σ
    rw [List.nil_append, List.length_nil, hl] at this
    rw [List.range_eq_range', ← this]; exact h
  · rename_i hd
    have hd' : draw = true := by simpa using hd
    subst hd'
    have fin : ∀ {q : Bool} {l : List IOper}, compOps P B ops n own q 0 ops.toList = some l → tryDraw ops.toList l = some l' → (Code.region id ops true).wp P Q a w := by
      intro q l hcl ht
      have hco := compOps_ok hcl
      obtain ⟨R, hR, hl'⟩ : ∃ R, drawB ops.toList l R = true ∧ (l' = pick l R) := by
        unfold tryDraw at ht
        split at ht
        · rename_i hR
          have e : l = l' := Option.some.inj ht
          refine ⟨_, hR, ?_⟩
          have hs : ops.toList.length = l.length := by rw [hco.len]; simp
          rw [hs, ← e]
          exact (pick_range l).symm
        · split at ht
          · rename_i hR
            cases ht
            exact ⟨_, hR, rfl⟩
          · cases ht
      simp only [drawB, Bool.and_eq_true] at hR
      obtain ⟨⟨hback, hperm⟩, hpair⟩ := hR
      obtain ⟨hp, hnd, hlt⟩ := permB_spec hperm
      have hsz : ops.toList.length = ops.size := by simp
      rw [hsz] at hp hlt
      have hlt' : ∀ x ∈ R, x < l.length := fun x hx => by rw [hco.len]; exact hlt x hx
      have hll : l'.length = ops.size := by
        rw [hl']
        have : ∀ R : List Nat, (∀ x ∈ R, x < l.length) → (pick l R).length = R.length := by
          intro R
          induction R with
          | nil => intro _; rfl
          | cons i R ih =>
            intro h
            unfold pick
            rw [List.filterMap_cons_some (by rw [List.getElem?_eq_getElem (h i (by simp))])]
            simp only [List.length_cons]
            have := ih (fun x hx => h x (by simp [hx]))
            unfold pick at this
            omega
        rw [this R hlt', hp.length_eq]; simp
      have hrun : RunL P nv l R k env σ := by rw [← pick_runI R env σ hlt', ← hl']; exact h
      refine wp_region_draw fun t => ?_
      simp only [Region.schedule, hm, Bool.true_or, if_true]
      obtain ⟨hLp, hLw⟩ := linearise_spec (ops := ops) hback t
      have hL := reorder (P := P) (nv := nv) (k := k) (anc := Anc ops.toList) (Region.linearise .any ops t) R env σ (hLp.trans hp.symm) hnd hlt' (pairOk_spec hpair) hLw hrun
      have hrd : Rel B n F K μ β (fun s => s < nv) env σ a { w with drawn := w.drawn + 1 } := hr.ext Ext.drew hr.inv.drew
      exact main (R := []) hco hll hLp hL hrd (fun F' μ' β' env' σ' a' w' g1 g2 g3 => hQ F' μ' β' env' σ' a' w' g1 g2 ((Ext.drew (K := K)).trans g3))
    split at hc
    · rename_i l2 hl2
      cases hc
      simp only [Option.bind_eq_some_iff] at hl2
      obtain ⟨l, h1, h2⟩ := hl2
      exact fin h1 h2
    · simp only [Option.bind_eq_some_iff] at hc
      obtain ⟨l, h1, h2⟩ := hc
      exact fin h1 h2

end
end Go.Av

namespace Go.Av

section
variable {B : List Nat} {n : Nat} {P : Program}

/-- The ghost step of a frame. -/
theorem Rel.ghost {F K : Nat → Prop} {μ : Nat → Option Spot} {β : Nat → Nat} {U : Nat → Prop} {env env' : Env} {σ σ' : Heap} {a : Act} {w : World}
    (hr : Rel B n F K μ β U env σ a w) {N : Nat} (hN : ∀ b, N ≤ b → μ b = none) (hg : GhN N env σ env' σ') : ∃ F' μ', Rel B n F' K μ' β U env' σ' a w ∧ Ext F K μ w F' μ' w := by
  obtain ⟨hal, hg⟩ := hg
  have hx : ∀ t, ∃ x : Value, RV F μ w (env t).con x ∧ (∀ st e, env t = .box st e → ∃ ty, w.heap[β t]? = some (.cells x.cells ty (0, 0))) ∧
      ((∀ st e, env t ≠ .box st e) → (∀ a b c, env t ≠ .dpt a b c) → x = a.tmps.getD t undef) := by
    intro t
    have hv := hr.val t
    cases he : env t with
    | box st e =>
      rw [he] at hv
      obtain ⟨_, _, _, u, ty, h4, h5⟩ := hv
      exact ⟨u, h4, fun _ _ _ => ⟨ty, h5⟩, fun h => absurd rfl (h _ _)⟩
    | dpt t' st o => exact ⟨undef, .any _, fun _ _ h => (by cases h), fun _ h => absurd rfl (h _ _ _)⟩
    | _ => rw [he] at hv; exact ⟨_, hv, fun _ _ h => (by cases h), fun _ _ => rfl⟩
  obtain ⟨xs, hxs⟩ := Classical.axiomOfChoice hx
  obtain ⟨F', μ', h1, h2, h3⟩ := hg F (KB K env β) μ w xs hN (fun t => (hxs t).1) hr.inv
  have hbox : ∀ t st e, env' t = .box st e → ∃ e0, env t = .box st e0 := by
    intro t st e h
    have := hal t
    rw [h] at this
    cases he : env t <;> rw [he] at this <;> simp [AV.alike] at this
    obtain ⟨e', ⟨h1, _⟩, _⟩ := this
    exact ⟨_, by rw [h1]⟩
  have hKB : ∀ k, KB K env' β k → KB K env β k := by
    rintro k (h | ⟨t, st, e, h1, h2⟩)
    · exact .inl h
    · obtain ⟨e0, h⟩ := hbox t st e h1
      exact .inr ⟨t, st, e0, h, h2⟩
  refine ⟨F', μ', ⟨hr.size, hr.defers, fun t st e h => let ⟨e0, h'⟩ := hbox t st e h; hr.nb t st e0 h', fun t => ?_,
    fun t t' st st' e e' g1 g2 g3 => let ⟨e0, k1⟩ := hbox t st e g1; let ⟨e1, k2⟩ := hbox t' st' e' g2; hr.dis t t' st st' e0 e1 k1 k2 g3,
    fun t st e h => let ⟨e0, h'⟩ := hbox t st e h; hr.kb t st e0 h', h2.monoK hKB⟩, h3.monoK fun _ => .inl⟩
  have hv := hr.val t
  have ha := hal t
  have hx1 := h1 t
  obtain ⟨_, hx2, hx3⟩ := hxs t
  cases he : env t with
  | box st e =>
    rw [he] at hv ha
    obtain ⟨e', he', hfl⟩ := ha
    rw [he'] at hx1 ⊢
    obtain ⟨ty, hty⟩ := hx2 _ _ he
    exact ⟨hv.1, hv.2.1, hfl hv.2.2.1, xs t, ty, hx1, hty⟩
  | dpt t' st o =>
    rw [he] at hv ha
    rcases ha with ha | ha <;> rw [ha]
    · exact ⟨hv.1, fun e h => let ⟨e0, h'⟩ := hbox _ _ _ h; hv.2 e0 h'⟩
    · exact .any _
  | _ =>
    rw [he] at ha
    simp only [AV.alike] at ha
    have hxe := hx3 (by rw [he]; simp) (by rw [he]; simp)
    rw [hxe] at hx1
    obtain ⟨ha1, ha2⟩ := ha
    cases he' : env' t <;> rw [he'] at hx1 <;> first | exact hx1 | (exact absurd he' (ha1 _ _)) | (exact absurd he' (ha2 _ _ _))

theorem sc_inv {F : Nat → Prop} {μ : Nat → Option Spot} {w : World} {x v : Value} (h : RV F μ w (.sc x) v) : v = x := by
  generalize ha : AV.sc x = y at h
  cases h <;> cases ha
  rfl

def exitOf : IExit → Exit
  | .normal => .normal
  | .exit i => .exit i
  | .ret => .ret

/-- How code ends. -/
def PostQ (B : List Nat) (n : Nat) (F K : Nat → Prop) (μ : Nat → Option Spot) (w : World) (Q : IPost) (e : Exit) (a' : Act) (w' : World) : Prop :=
  ∃ x F' μ' β' env' nv' σ', e = exitOf x ∧ Q x env' nv' σ' ∧ Rel B n F' K μ' β' (fun s => s < nv') env' σ' a' w' ∧ Ext F K μ w F' μ' w'

theorem PostQ.lift {F F1 K : Nat → Prop} {μ μ1 : Nat → Option Spot} {w w1 : World} {Q : IPost} {e : Exit} {a' : Act} {w' : World} (h : PostQ B n F1 K μ1 w1 Q e a' w') (he : Ext F K μ w F1 μ1 w1) : PostQ B n F K μ w Q e a' w' :=
  let ⟨x, F', μ', β', env', nv', σ', h1, h2, h3, h4⟩ := h
  ⟨x, F', μ', β', env', nv', σ', h1, h2, h3, he.trans h4⟩

theorem least {G : Nat → Prop} (h : ∃ k, G k) : ∃ k, G k ∧ ∀ j, G j → k ≤ j := by
  obtain ⟨k, hk⟩ := h
  induction k using Nat.strongRecOn with
  | _ k ih =>
    by_cases hx : ∃ j, j < k ∧ G j
    · obtain ⟨j, h1, h2⟩ := hx
      exact ih j h1 h2
    · exact ⟨k, hk, fun j hj => Nat.le_of_not_lt fun hl => hx ⟨j, hl, hj⟩⟩

/-- A loop whose measure stands on a ghost. -/
theorem wp_loop_ghost {c : Code} {Q : Exit → Act → World → Prop} (G : Nat → Act → World → Prop) {a : Act} {w : World} (h₀ : ∃ k, G k a w)
    (round : ∀ k a w, G k a w → c.wp P (Exit.then (fun a' w' => ∃ k', k' < k ∧ G k' a' w') Q) a w) : (Code.loop c).wp P Q a w := by
  have hm : ∀ a w, ∃ m : Nat, (∃ k, G k a w) → G m a w ∧ ∀ j, G j a w → m ≤ j := by
    intro a w
    by_cases hx : ∃ k, G k a w
    · obtain ⟨k, hk⟩ := least hx
      exact ⟨k, fun _ => hk⟩
    · exact ⟨0, fun h => absurd h hx⟩
  refine wp_loop (fun a w => ∃ k, G k a w) (fun a w => Classical.choose (hm a w)) h₀ fun a w hI => ?_
  have h1 := Classical.choose_spec (hm a w) hI
  refine wp_mono (round _ a w h1.1) fun e a' w' he => ?_
  cases e <;> first | exact he | skip
  obtain ⟨k', hk, hG⟩ := he
  have h2 := Classical.choose_spec (hm a' w') ⟨k', hG⟩
  exact ⟨⟨k', hG⟩, Nat.lt_of_le_of_lt (h2.2 _ hG) hk⟩

/-- What was shown of the abstract code holds of the code. -/
theorem wpI_sound (hm : P.follows .mixedOrders = true) {own : List Nat} : ∀ (c : Code) {ic : ICode}, comp P B n own c = some ic →
    ∀ {F K : Nat → Prop} {μ : Nat → Option Spot} {β : Nat → Nat} {env : Env} {σ : Heap} {a : Act} {w : World} {nv : Nat} {Q : IPost},
      Rel B n F K μ β (fun s => s < nv) env σ a w → WpI P ic Q env nv σ → c.wp P (PostQ B n F K μ w Q) a w := by
  intro c
  induction c with
  | skip =>
    intro ic hc F K μ β env σ a w nv Q hr h
    cases hc
    exact wp_skip ⟨.normal, F, μ, β, env, nv, σ, rfl, h, hr, Ext.refl F K μ w⟩
  | region id ops d =>
    intro ic hc F K μ β env σ a w nv Q hr h
    simp only [comp, Option.map_eq_some_iff] at hc
    obtain ⟨l, hl, rfl⟩ := hc
    refine region_sound hm hl hr h fun F' μ' β' env' σ' a' w' g1 g2 g3 => ⟨.normal, F', μ', β', env', _, σ', rfl, g1, g2, g3⟩
  | seq x y ihx ihy =>
    intro ic hc F K μ β env σ a w nv Q hr h
    simp only [comp, Option.bind_eq_some_iff, Option.map_eq_some_iff] at hc
    obtain ⟨ix, hx, iy, hy, rfl⟩ := hc
    refine wp_seq (wp_mono (ihx hx hr h) fun e a' w' ⟨x, F', μ', β', env', nv', σ', h1, h2, h3, h4⟩ => ?_)
    subst h1
    cases x with
    | normal => exact wp_mono (ihy hy h3 h2) fun e a' w' hp => hp.lift h4
    | exit i => exact ⟨.exit i, F', μ', β', env', nv', σ', rfl, h2, h3, h4⟩
    | ret => exact ⟨.ret, F', μ', β', env', nv', σ', rfl, h2, h3, h4⟩
  | cond o x y ihx ihy =>
    intro ic hc F K μ β env σ a w nv Q hr h
    simp only [comp, Option.bind_eq_some_iff, Option.map_eq_some_iff] at hc
    obtain ⟨io, ho, ix, hx, iy, hy, rfl⟩ := hc
    obtain ⟨b, hb, ht, hf⟩ := h
    have hv := opd_ev ho hr
    rw [hb] at hv
    have hv : a.eval o = .bool b := sc_inv hv
    cases b with
    | true => exact wp_cond_true hv (ihx hx hr (ht rfl))
    | false => exact wp_cond_false hv (ihy hy hr (hf rfl))
  | block id x ih =>
    intro ic hc F K μ β env σ a w nv Q hr h
    simp only [comp, Option.map_eq_some_iff] at hc
    obtain ⟨ix, hx, rfl⟩ := hc
    refine wp_block (wp_mono (ih hx hr h) fun e a' w' ⟨x, F', μ', β', env', nv', σ', h1, h2, h3, h4⟩ => ?_)
    subst h1
    cases x with
    | normal => exact ⟨.normal, F', μ', β', env', nv', σ', rfl, h2, h3, h4⟩
    | ret => exact ⟨.ret, F', μ', β', env', nv', σ', rfl, h2, h3, h4⟩
    | exit i =>
      simp only [exitOf, Exit.inBlock]
      simp only [blkQ] at h2
      by_cases hi : i = id
      · rw [if_pos hi] at h2 ⊢
        exact ⟨.normal, F', μ', β', env', nv', σ', rfl, h2, h3, h4⟩
      · rw [if_neg hi] at h2 ⊢
        exact ⟨.exit i, F', μ', β', env', nv', σ', rfl, h2, h3, h4⟩
  | loop x ih =>
    intro ic hc F K μ β env σ a w nv Q hr h
    simp only [comp, Option.map_eq_some_iff] at hc
    obtain ⟨ix, hx, rfl⟩ := hc
    obtain ⟨N, hN⟩ := hr.inv.fin
    obtain ⟨env0, σ0, I, m, hg, hag, hI, hrd⟩ := h N fun b hb => (hN b hb).2
    obtain ⟨F0, μ0, hr0, he0⟩ := hr.ghost (fun b hb => (hN b hb).1) hg
    refine wp_loop_ghost (fun k a' w' => ∃ F' μ' β' env' nv' σ', k = m env' σ' ∧ agree (written ix) env0 env' ∧ I env' σ' ∧ Rel B n F' K μ' β' (fun s => s < nv') env' σ' a' w' ∧ Ext F K μ w F' μ' w')
      ⟨_, F0, μ0, β, env0, nv, σ0, rfl, fun _ _ => rfl, hI, hr0, he0⟩ ?_
    rintro k a1 w1 ⟨F1, μ1, β1, env1, nv1, σ1, rfl, hag1, hI1, hr1, he1⟩
    refine wp_mono (ih hx hr1 (hrd env1 nv1 σ1 hag1 hI1)) fun e a' w' ⟨x, F', μ', β', env', nv', σ', h1, h2, h3, h4⟩ => ?_
    subst h1
    cases x with
    | exit i => exact ⟨.exit i, F', μ', β', env', nv', σ', rfl, h2, h3, he1.trans h4⟩
    | ret => exact ⟨.ret, F', μ', β', env', nv', σ', rfl, h2, h3, he1.trans h4⟩
    | normal =>
      obtain ⟨e2, s2, g1, g2, g3, g4⟩ := h2
      obtain ⟨N2, hN2⟩ := h3.inv.fin
      obtain ⟨F2, μ2, hr2, he2⟩ := h3.ghost (fun b hb => (hN2 b hb).1) (g1.ghN N2)
      exact ⟨_, g4, F2, μ2, β', e2, nv', s2, rfl, g2, g3, hr2, (he1.trans h4).trans he2⟩
  | exit id =>
    intro ic hc F K μ β env σ a w nv Q hr h
    cases hc
    exact wp_exit ⟨.exit id, F, μ, β, env, nv, σ, rfl, h, hr, Ext.refl F K μ w⟩
  | ret =>
    intro ic hc F K μ β env σ a w nv Q hr h
    cases hc
    exact wp_ret ⟨.ret, F, μ, β, env, nv, σ, rfl, h, hr, Ext.refl F K μ w⟩
  | _ => intro ic hc; cases hc

end
end Go.Av

