/- One byte that is replaced by another one is found. -/
import Derived.Test.YtjajknghcbpblaaQx9
import Derived.Test.YtjajknghcbpblaaAppends
namespace Go.Proofs.Ytjajknghcbpblaa.Arith
open Go.RowKit Go.Proofs.Ytjajknghcbpblaa.Q Go.Proofs.YtjajknghcbpblaaW.PrintWords Go.Proofs.YtjajknghcbpblaaW.PrintLast Go.Proofs.YtjajknghcbpblaaW.PrintMore

theorem TEN_by (seq n c : Int) : By (TEN seq n c) := by
  intro x hx
  simp only [TEN, List.mem_cons, List.not_mem_nil, or_false] at hx
  rcases hx with rfl | rfl | rfl | rfl | rfl | rfl | rfl | rfl | rfl | rfl <;> omega
theorem chk_bounds (l : List Int) (s : Int) (h : 0 ≤ s ∧ s ≤ 255) : 0 ≤ chk s l ∧ chk s l ≤ 255 := by
  induction l generalizing s with
  | nil => exact h
  | cons x t ih => exact ih _ (by omega)
theorem chk_inj (l : List Int) (s t : Int) (hs : 0 ≤ s ∧ s ≤ 255) (ht : 0 ≤ t ∧ t ≤ 255) (h : chk s l = chk t l) : s = t := by
  induction l generalizing s t with
  | nil => exact h
  | cons x r ih =>
    have := ih _ _ (by omega) (by omega) h
    omega
/-- one byte that is another one changes the check byte -/
theorem chk_set (l : List Int) (hl : By l) (s : Int) (hs : 0 ≤ s ∧ s ≤ 255) (i : Nat) (hi : i < l.length) (y : Int) (hy : 0 ≤ y ∧ y ≤ 255) (hne : l.getD i 0 ≠ y) : chk s (l.set i y) ≠ chk s l := by
  induction l generalizing s i with
  | nil => exact absurd hi (by simp)
  | cons x t ih =>
    have hx := hl x (by simp)
    cases i with
    | zero =>
      intro e
      have := chk_inj t _ _ (by omega) (by omega) e
      have hne' : x ≠ y := hne
      omega
    | succ i => exact ih (fun z hz => hl z (by simp [hz])) _ (by omega) i (by simpa using hi) (by simpa using hne)
theorem MRK_eq (seq n c : Int) : MRK seq n c = TEN seq n c ++ [chk 0 (TEN seq n c)] := rfl
theorem MRK_len (seq n c : Int) : (MRK seq n c).length = 11 := rfl
theorem MRK_by (seq n c : Int) : By (MRK seq n c) := by
  rw [MRK_eq]
  refine (TEN_by seq n c).app (fun x hx => ?_)
  simp only [List.mem_singleton] at hx
  subst hx
  exact chk_bounds _ 0 (by decide)
/-- the rows of bytes whose first eleven are m, at 0 -/
theorem FR_zero (m rest : List Int) (hm : m.length = 11) : FR (m ++ rest) 0 = FRm rest ((m ++ rest).length : Int) 0 m := by
  unfold FR
  rw [if_neg (by omega)]
  have e1 : (m ++ rest).drop (Int.toNat 0 + 11) = rest := by
    rw [show Int.toNat 0 + 11 = m.length by rw [hm]; rfl, List.drop_left' rfl]
  have e2 : ((m ++ rest).drop (Int.toNat 0)).take 11 = m := by
    show (m ++ rest).take 11 = m
    rw [← hm, List.take_left' rfl]
  rw [e1, e2]
/-- what eleven bytes must be -/
theorem FRm_ok {rest : List Int} {len : Int} {m : List Int} (h : (FRm rest len 0 m).2.2.2 = 0) (hm : m.length = 11) : m.getD 0 0 = 255 ∧ m.getD 1 0 = 179 ∧ m.getD 10 0 = chk 0 (m.take 10) ∧ ((crc (rest.take (num 0 ((m.take 8).drop 4)).toNat) : Nat) : Int) = num 0 ((m.take 10).drop 8) := by
  obtain ⟨g0, g1, g2, g3, g4, g5, g6, g7, g8, g9, g10, rfl⟩ := eleven hm
  unfold FRm at h
  simp only at h
  by_cases c1 : g0 = 255 ∧ g1 = 179
  · rw [if_pos c1] at h
    by_cases c2 : g10 = chk 0 [g0, g1, g2, g3, g4, g5, g6, g7, g8, g9]
    · rw [if_pos c2] at h
      by_cases c3 : len - 0 - 11 < num 0 [g4, g5, g6, g7]
      · rw [if_pos c3] at h
        exact absurd h (by decide)
      · rw [if_neg c3] at h
        by_cases c4 : ((crc (rest.take (num 0 [g4, g5, g6, g7]).toNat) : Nat) : Int) = num 0 [g8, g9]
        · exact ⟨c1.1, c1.2, c2, c4⟩
        · rw [if_neg c4] at h
          exact absurd h (by decide)
    · rw [if_neg c2] at h
      exact absurd h (by decide)
  · rw [if_neg c1] at h
    exact absurd h (by decide)
/-- where it isn't OK, nothing else is said -/
theorem FRm_bad {rest : List Int} {len a : Int} {m : List Int} (h : (FRm rest len a m).2.2.2 ≠ 0) : (FRm rest len a m).1 = 0 ∧ (FRm rest len a m).2.1 = 0 ∧ (FRm rest len a m).2.2.1 = 0 := by
  revert h
  unfold FRm
  split
  · split
    · split
      · split
        · intro _; exact ⟨rfl, rfl, rfl⟩
        · split
          · intro h; exact absurd rfl h
          · intro _; exact ⟨rfl, rfl, rfl⟩
      · intro _; exact ⟨rfl, rfl, rfl⟩
    · intro _; exact ⟨rfl, rfl, rfl⟩
  · intro _; exact ⟨rfl, rfl, rfl⟩
theorem num_size (n : Nat) (h : n < 4294967296) : num 0 [(n : Int) / 16777216 % 256, (n : Int) / 65536 % 256, (n : Int) / 256 % 256, (n : Int) % 256] = (n : Int) := by
  rw [num4]
  omega
theorem num_two (n : Int) (h : 0 ≤ n ∧ n ≤ 65535) : num 0 [n / 256 % 256, n % 256] = n := by
  rw [num2]
  omega
/-- the marker that Append writes is accepted -/
theorem FR_made (rest : List Int) (hr : By rest) (hl : rest.length < 4294967296) (seq : Int) (hs : 0 ≤ seq ∧ seq ≤ 65535) : FR (MRK seq (rest.length : Int) ((crc rest : Nat) : Int) ++ rest) 0 = (seq, 11, 11 + (rest.length : Int), 0) := by
  have hc := crc_lt hr
  rw [FR_zero _ _ (MRK_len _ _ _), List.length_append, MRK_len]
  show (if (255 : Int) = 255 ∧ (179 : Int) = 179 then (if chk 0 (TEN seq (rest.length : Int) ((crc rest : Nat) : Int)) = chk 0 (TEN seq (rest.length : Int) ((crc rest : Nat) : Int)) then (if ((11 + rest.length : Nat) : Int) - 0 - 11 < num 0 [(rest.length : Int) / 16777216 % 256, (rest.length : Int) / 65536 % 256, (rest.length : Int) / 256 % 256, (rest.length : Int) % 256] then (0, 0, 0, 7) else if ((crc (rest.take (num 0 [(rest.length : Int) / 16777216 % 256, (rest.length : Int) / 65536 % 256, (rest.length : Int) / 256 % 256, (rest.length : Int) % 256]).toNat) : Nat) : Int) = num 0 [((crc rest : Nat) : Int) / 256 % 256, ((crc rest : Nat) : Int) % 256] then (num 0 [seq / 256 % 256, seq % 256], 0 + 11, 0 + 11 + num 0 [(rest.length : Int) / 16777216 % 256, (rest.length : Int) / 65536 % 256, (rest.length : Int) / 256 % 256, (rest.length : Int) % 256], 0) else (0, 0, 0, 17)) else (0, 0, 0, 17)) else (0, 0, 0, 11) : Int × Int × Int × Int) = _
  rw [if_pos ⟨rfl, rfl⟩, if_pos rfl, num_size _ hl, num_two _ (by omega : 0 ≤ ((crc rest : Nat) : Int) ∧ ((crc rest : Nat) : Int) ≤ 65535), num_two _ hs, if_neg (by omega), Int.toNat_natCast, List.take_length, if_pos rfl]
  rfl
theorem set_app_left (m rest : List Int) (i : Nat) (y : Int) (h : i < m.length) : (m ++ rest).set i y = m.set i y ++ rest := List.set_append_left _ _ h
theorem set_app_right (m rest : List Int) (i : Nat) (y : Int) (h : m.length ≤ i) : (m ++ rest).set i y = m ++ rest.set (i - m.length) y := List.set_append_right _ _ h
/-- one byte replaced by another one: an error -/
theorem FR_changed (rest : List Int) (hr : By rest) (hl : rest.length < 4294967296) (seq : Int) (i : Nat) (y : Int) (hy : 0 ≤ y ∧ y ≤ 255) (hi : i < 11 + rest.length)
    (hne : (MRK seq (rest.length : Int) ((crc rest : Nat) : Int) ++ rest).getD i 0 ≠ y) : (FR ((MRK seq (rest.length : Int) ((crc rest : Nat) : Int) ++ rest).set i y) 0).2.2.2 ≠ 0 := by
  intro h
  have hc := crc_lt hr
  by_cases c : i < 11
  · rw [set_app_left _ _ _ _ (by rw [MRK_len]; exact c), FR_zero _ _ (by rw [List.length_set, MRK_len])] at h
    obtain ⟨e0, e1, e2, _⟩ := FRm_ok h (by rw [List.length_set, MRK_len])
    have hne' : (MRK seq (rest.length : Int) ((crc rest : Nat) : Int)).getD i 0 ≠ y := by
      rw [List.getD_eq_getElem?_getD, List.getElem?_append_left (by rw [MRK_len]; exact c), ← List.getD_eq_getElem?_getD] at hne
      exact hne
    by_cases c10 : i = 10
    · subst c10
      have : y = chk 0 (TEN seq (rest.length : Int) ((crc rest : Nat) : Int)) := e2
      exact hne' this.symm
    · have hi10 : i < 10 := by omega
      have et : ((MRK seq (rest.length : Int) ((crc rest : Nat) : Int)).set i y).take 10 = (TEN seq (rest.length : Int) ((crc rest : Nat) : Int)).set i y := by
        rw [List.take_set]
        rfl
      have eg : ((MRK seq (rest.length : Int) ((crc rest : Nat) : Int)).set i y).getD 10 0 = chk 0 (TEN seq (rest.length : Int) ((crc rest : Nat) : Int)) := by
        rw [List.getD_eq_getElem?_getD, List.getElem?_set_ne (by omega)]
        rfl
      rw [et, eg] at e2
      refine chk_set _ (TEN_by _ _ _) 0 (by decide) i hi10 y hy ?_ e2.symm
      rw [MRK_eq, List.getD_eq_getElem?_getD, List.getElem?_append_left (by exact hi10), ← List.getD_eq_getElem?_getD] at hne'
      exact hne'
  · rw [set_app_right _ _ _ _ (by rw [MRK_len]; omega), FR_zero _ _ (MRK_len _ _ _), MRK_len] at h
    obtain ⟨_, _, _, e3⟩ := FRm_ok h (MRK_len _ _ _)
    have e4 : ((crc ((rest.set (i - 11) y).take (num 0 [(rest.length : Int) / 16777216 % 256, (rest.length : Int) / 65536 % 256, (rest.length : Int) / 256 % 256, (rest.length : Int) % 256]).toNat) : Nat) : Int) = num 0 [((crc rest : Nat) : Int) / 256 % 256, ((crc rest : Nat) : Int) % 256] := e3
    rw [num_size _ hl, num_two _ (by omega : 0 ≤ ((crc rest : Nat) : Int) ∧ ((crc rest : Nat) : Int) ≤ 65535), Int.toNat_natCast, List.take_of_length_le (by rw [List.length_set]; exact Nat.le_refl _)] at e4
    refine crcL_set 65535 (by decide) hr (i - 11) (by omega) y hy ?_ (by exact_mod_cast e4)
    rw [List.getD_eq_getElem?_getD, List.getElem?_append_right (by rw [MRK_len]; omega), MRK_len, ← List.getD_eq_getElem?_getD] at hne
    exact hne
theorem PacketDetects_pure (hd bd : List Int) (h0 h1 h2 h3 : Int) (fence : Bool) (seq a y : Int) (hh : ∀ x ∈ hd, (Lit.int .u8 x).wf = true) (hbd : ∀ x ∈ bd, (Lit.int .u8 x).wf = true) (hl : hd.length ≤ 140737488351232) (hl' : bd.length ≤ 140737488351232) (hy : (Lit.int .u8 y).wf = true) :
    ∃ k, waveletlaw27_PacketDetects.f k h0 h1 h2 h3 hd bd fence seq a y = some true := by
  refine ⟨20200, ?_⟩
  have hy := u8_bounds hy
  unfold waveletlaw27_PacketDetects.f
  rw [wid (by omega) (by omega)]
  have ex : ∀ k, 400 ≤ k → ((waveletlaw27_exampleHolds.f k).bind fun t => some t) = some true := fun k hk => by rw [example_at hk]; rfl
  have ex0 : waveletlaw27_PacketDetects.j0 20200 fence seq a y true h0 h1 h2 h3 hd bd = some true := by
    rw [waveletlaw27_PacketDetects.j0, if_pos rfl]
    exact ex _ (by decide)
  by_cases c1 : (hd.length : Int) + (bd.length : Int) > 1000
  · rw [if_pos c1]
    exact ex0
  rw [if_neg c1]
  by_cases c2 : seq < 0
  · rw [if_pos c2]
    exact ex0
  rw [if_neg c2]
  by_cases c3 : seq > 65535
  · rw [decide_eq_true c3]
    exact ex0
  rw [decide_eq_false c3, waveletlaw27_PacketDetects.j0, if_neg (by decide)]
  have hB := RST_by (By.of hh) (By.of hbd) fence
  rw [append_code [] hd bd h0 h1 h2 h3 true fence seq (By.of hh) (By.of hbd) (by omega) (by omega) (by simp) (by decide), Option.bind_some]
  have hlr : (RST hd bd fence).length ≤ 1002 := by
    unfold RST
    cases fence
    · rw [if_neg (by decide), List.length_append]; omega
    · rw [if_pos rfl]; simp; omega
  have e : AP [] (RST hd bd fence) true seq = MRK seq ((RST hd bd fence).length : Int) ((crc (RST hd bd fence) : Nat) : Int) ++ RST hd bd fence := rfl
  simp only [e]
  generalize RST hd bd fence = rest at hB hlr
  have hmade := FR_made rest hB (by omega) seq (by omega)
  have hchg := FR_changed rest hB (by omega) seq a.toNat y hy
  have hby := (MRK_by seq (rest.length : Int) ((crc rest : Nat) : Int)).app hB
  have hlen : (MRK seq (rest.length : Int) ((crc rest : Nat) : Int) ++ rest).length = 11 + rest.length := by rw [List.length_append, MRK_len]
  generalize MRK seq (rest.length : Int) ((crc rest : Nat) : Int) ++ rest = out at hmade hchg hby hlen
  rw [frame_code hby (by omega) 0 (by decide) (by decide) (by omega), Option.bind_some, hmade]
  simp only [if_true]
  have ez : (!((11 : Int) == 11) || (!(11 + (rest.length : Int) == (out.length : Int)))) = false := by
    rw [hlen, show ((11 + rest.length : Nat) : Int) = 11 + (rest.length : Int) by omega]
    simp
  rw [ez, waveletlaw27_PacketDetects.j1, if_neg (by decide)]
  have ex2 : waveletlaw27_PacketDetects.j2 20198 a y out true = some true := by
    rw [waveletlaw27_PacketDetects.j2, if_pos rfl]
    exact ex _ (by decide)
  by_cases d1 : a < 0
  · rw [if_pos d1]
    exact ex2
  rw [if_neg d1]
  by_cases d2 : a ≥ (out.length : Int)
  · rw [if_pos d2]
    exact ex2
  rw [if_neg d2, if_pos (by omega), if_pos (by omega)]
  by_cases d3 : rd out a = y
  · rw [d3, beq_self_eq_true]
    exact ex2
  have hbad := hchg (by omega) d3
  have hby2 : By (out.set a.toNat y) := fun x hx => by
    rcases List.mem_or_eq_of_mem_set hx with h | rfl
    · exact hby x h
    · exact hy
  rw [beq_eq_false_iff_ne.2 d3, waveletlaw27_PacketDetects.j2, if_neg (by decide), if_pos (by omega), if_pos (by omega), frame_code hby2 (by rw [List.length_set]; omega) 0 (by decide) (by decide) (by rw [List.length_set]; omega), Option.bind_some, if_neg hbad]
  have hz : (FR (out.set a.toNat y) 0).1 = 0 ∧ (FR (out.set a.toNat y) 0).2.1 = 0 ∧ (FR (out.set a.toNat y) 0).2.2.1 = 0 := by
    unfold FR at hbad ⊢
    rw [if_neg (by omega)] at hbad ⊢
    exact FRm_bad hbad
  rw [hz.1, hz.2.1, hz.2.2, if_pos rfl, if_pos (by decide)]
  exact ex _ (by decide)
end Go.Proofs.Ytjajknghcbpblaa.Arith
