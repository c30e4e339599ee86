/- Colorspec: a row is cloned, sorted, made compact. -/
import Derived.Test.YtkjcjlembepdkaaCsB
set_option linter.unusedVariables false
set_option linter.unusedSimpArgs false
namespace Go.Proofs.Ytkjcjlembepdkaa.Sh
open Go.Proofs.Ytkjcjlembepdkaa.FW
theorem clone_eq {H : Heap} {q : Option Addr} {xs : List Int} (c : Nat) (h : Shows H q (ints xs)) (h0 : 0 < xs.length) (hl : xs.length ≤ 1000000) :
    ∃ H', (∀ (R : Type) (K : Option Addr → Nat → Nat → Heap → Option R), slices_Clone___int_int_ q xs.length c H K = K (some ⟨H.length + 1, 0, none⟩) xs.length unk H') ∧ Owns H' (H.length + 1) (ints xs) 1 ∧ Old H.length H H' ∧ H'.length = H.length + 2 := by
  have hq : q.isNone = false := by
    rcases h with h | ⟨b, o, full, rfl, _⟩
    · have := congrArg List.length h; rw [ints_len] at this; simp at this; subst this; simp at h0
    · rfl
  obtain ⟨H1, hH1⟩ : ∃ H1, H1 = H ++ [some (⟨[], false, 0⟩ : Blk)] := ⟨_, rfl⟩
  have o1 : Old H.length H H1 := hH1 ▸ Old.app _ _
  have l1 : H1.length = H.length + 1 := by rw [hH1]; simp
  obtain ⟨H2, hH2⟩ : ∃ H2, H2 = H1 ++ [some (⟨ints xs, false, 1⟩ : Blk)] := ⟨_, rfl⟩
  have o2 : Old H1.length H1 H2 := hH2 ▸ Old.app _ _
  refine ⟨H2, fun R K => ?_, ?_, o1.trans (o2.mono (by omega)), by rw [hH2]; simp [l1]⟩
  · unfold slices_Clone___int_int_ slices_Clone___int_int__b
    refine go_f hq (go_halN hH1 ?_)
    have hs := (h.old o1 (by
      rcases h with h | ⟨b, o, full, rfl, h1, _⟩
      · exact .inl h
      · exact .inr fun a ha => by cases ha; exact h1.lt)).hcells
    rw [ints_len] at hs
    unfold happS happ
    rw [Nat.mul_one, hs]
    dsimp only
    have hc : FW.hcells H1 (some ⟨H.length, 0, none⟩) (0 * 1) = some [] := by unfold FW.hcells; rw [if_pos rfl]
    rw [if_neg (by unfold unk; omega), if_neg (by omega), if_pos (by omega), hc, Nat.zero_add]
    show K _ _ _ _ = _
    rw [l1, hH2]; rfl
  · rw [← l1, hH2]; exact hblk_new H1 _
theorem len_ex {l : Nat} (h0 : 0 < l) (h4 : l ≤ 4) (k : Nat) : ∃ n, ∀ (R : Type) (K : Int → Option R), bits_Len k (IntKind.wrap .u64 ((l : Nat) : Int)) K = K n := by
  have h : l = 1 ∨ l = 2 ∨ l = 3 ∨ l = 4 := by omega
  rcases h with rfl | rfl | rfl | rfl
  · exact ⟨1, fun R K => by kernel_rfl⟩
  · exact ⟨2, fun R K => by kernel_rfl⟩
  · exact ⟨2, fun R K => by kernel_rfl⟩
  · exact ⟨3, fun R K => by kernel_rfl⟩
theorem sort_eq {k : Nat} (hk : 100 < k) {H : Heap} {b l : Nat} (c : Nat) {f : Nat → Int} (O : Oi H b l f) (h0 : 0 < l) (h4 : l ≤ 4) :
    ∃ H', (∀ (R : Type) (K : Heap → Option R), slices_Sort___int_int_ k (some ⟨b, 0, none⟩) l c H K = K H') ∧ Oi H' b l (srt (l - 1) 1 f) ∧ But b H H' ∧ H'.length = H.length := by
  obtain ⟨n, en⟩ := len_ex h0 h4 k
  obtain ⟨H1, e1, O1, b1, n1⟩ := srt_l k b l c (by omega) (by omega) (l - 1) k 1 (by omega) (by omega) H f O
  refine ⟨H1, fun R K => ?_, O1, b1, n1⟩
  obtain ⟨k, rfl⟩ : ∃ k', k = k' + 1 := ⟨k - 1, by omega⟩
  unfold slices_Sort___int_int_ slices_Sort___int_int__b
  refine (en _ _).trans ?_
  unfold slices_pdqsortOrdered_int_ slices_pdqsortOrdered_int__b slices_pdqsortOrdered_int__l0 slices_pdqsortOrdered_int__l0_b
  refine go_t (decide_eq_true (by rw [w64 (by omega) (by omega)]; omega)) ?_
  unfold slices_insertionSortOrdered_int_ slices_insertionSortOrdered_int__b
  exact e1 _ _
theorem cmp_l1 (k : Nat) (b l c : Nat) (hl : l ≤ 1000000) (i0 : Nat) (c2 : Nat) (hi0 : i0 < l) : ∀ (m n j : Nat), m < n → l - i0 = j + m → 1 ≤ j → ∀ (H : Heap) (f : Nat → Int) (i : Nat), Oi H b l f → i ≤ i0 + j - 1 → 1 ≤ i →
    ∃ H' f' i', (∀ (R : Type) (KE : Option Addr → Nat → Nat → Int → Heap → Option R), slices_Compact___int_int__l1 k KE n (some ⟨b, 0, none⟩) l c (i : Int) (some ⟨b, i0, none⟩) (l - i0) c2 (j : Int) H = KE (some ⟨b, 0, none⟩) l c ((i' : Nat) : Int) H') ∧ Oi H' b l f' ∧ (i' < l ∧ 1 ≤ i') ∧ But b H H' ∧ H'.length = H.length := by
  intro m
  induction m with
  | zero =>
    intro n j hn hj h1 H f i O hi h1i
    obtain ⟨n, rfl⟩ : ∃ n', n = n' + 1 := ⟨n - 1, by omega⟩
    refine ⟨H, f, i, fun R KE => ?_, O, ⟨by omega, h1i⟩, .refl _ _, rfl⟩
    unfold slices_Compact___int_int__l1 slices_Compact___int_int__l1_b
    exact go_f (decide_eq_false (by omega)) rfl
  | succ m ih =>
    intro n j hn hj h1 H f i O hi h1i
    obtain ⟨n, rfl⟩ : ∃ n', n = n' + 1 := ⟨n - 1, by omega⟩
    have hx : ∀ (t : Nat) (n : Int), n = t → t < l - i0 → ∀ (R : Type) (K : Option Addr → Option R), hidx (some ⟨b, i0, none⟩) (l - i0) n 1 K = K (some ⟨b, i0 + t, none⟩) := by
      intro t n hn ht R K
      subst hn
      rw [hidx_1 b (l - i0) i0 (t : Int) (by omega) (by omega)]
      simp
    have e1 : IntKind.wrap .i64 ((j : Int) - 1) = ((j - 1 : Nat) : Int) := by rw [w64 (by omega) (by omega)]; omega
    by_cases hne : f (i0 + j) = f (i0 + (j - 1))
    · obtain ⟨H3, f3, i3, e3, O3, hi3, b3, n3⟩ := ih n (j + 1) (by omega) (by omega) (by omega) H f i O (by omega) h1i
      refine ⟨H3, f3, i3, fun R KE => ?_, O3, hi3, b3, n3⟩
      unfold slices_Compact___int_int__l1 slices_Compact___int_int__l1_b slices_Compact___int_int__p2 slices_Compact___int_int__p2_b
      refine go_t (decide_eq_true (by omega)) ?_
      rw [e1]
      refine (hx j _ rfl (by omega) _ _).trans ((O.ld (by omega) _ _).trans ((hx (j - 1) _ rfl (by omega) _ _).trans ((O.ld (by omega) _ _).trans (go_f (by rw [hne]; exact bne_self_eq_false' _) ?_))))
      try dsimp only
      rw [w64 (n := (j : Int) + 1) (by omega) (by omega)]
      exact e3 R KE
    · obtain ⟨H1, p1, O1, b1, n1⟩ := O.put (i := i) (by omega) (f (i0 + j))
      obtain ⟨H3, f3, i3, e3, O3, hi3, b3, n3⟩ := ih n (j + 1) (by omega) (by omega) (by omega) H1 _ (i + 1) O1 (by omega) (by omega)
      refine ⟨H3, f3, i3, fun R KE => ?_, O3, hi3, b1.trans b3, by omega⟩
      unfold slices_Compact___int_int__l1 slices_Compact___int_int__l1_b slices_Compact___int_int__p2 slices_Compact___int_int__p2_b
      refine go_t (decide_eq_true (by omega)) ?_
      rw [e1]
      refine (hx j _ rfl (by omega) _ _).trans ((O.ld (by omega) _ _).trans ((hx (j - 1) _ rfl (by omega) _ _).trans ((O.ld (by omega) _ _).trans (go_t (by rw [bne_iff_ne]; exact hne) ?_))))
      refine (hx j _ rfl (by omega) _ _).trans ((O.ld (by omega) _ _).trans ((hx1 b l rfl (by omega) _ _).trans ((p1 _ _).trans ?_)))
      try dsimp only
      rw [w64 (n := (j : Int) + 1) (by omega) (by omega), w64 (n := (i : Int) + 1) (by omega) (by omega)]
      exact e3 R KE
/-- A slice from a place on, of a row whose capacity is not known. -/
theorem slc_lo {b l : Nat} {i : Nat} (hl : l < unk) (h0 : 0 < i) (hi : i < l) (R : Type) (K : Option Addr → Nat → Nat → Option R) : hslc 1 (some ⟨b, 0, none⟩) l unk (some ((i : Nat) : Int)) none none K = K (some ⟨b, i, none⟩) (l - i) unk := by
  unfold hslc
  dsimp only [Option.getD_some, Option.getD_none, Option.isSome_none, Option.isSome_some]
  rw [if_pos ⟨by omega, by omega, by omega, by rw [if_pos rfl]; exact ⟨rfl, .inr ⟨rfl, by omega⟩⟩⟩, if_pos ⟨rfl, rfl⟩, if_neg (by omega), if_pos ⟨by omega, by omega⟩]
  simp
theorem slc_hi {b l : Nat} {i : Nat} (hl : l < unk) (hi : i ≤ l) (R : Type) (K : Option Addr → Nat → Nat → Option R) : hslc 1 (some ⟨b, 0, none⟩) l unk none (some ((i : Nat) : Int)) none K = K (some ⟨b, 0, none⟩) i unk := by
  unfold hslc
  dsimp only [Option.getD_some, Option.getD_none, Option.isSome_none, Option.isSome_some]
  rw [if_pos ⟨by omega, by omega, by omega, by rw [if_pos rfl]; exact ⟨rfl, .inr ⟨rfl, by omega⟩⟩⟩, if_pos ⟨rfl, rfl⟩, if_pos rfl]
  simp
theorem clr_eq {H : Heap} {b l i : Nat} {f : Nat → Int} (O : Oi H b l f) (hi : i ≤ l) : ∃ H', (∀ (R : Type) (K : Heap → Option R), hclr [.int .i64 0] H (some ⟨b, i, none⟩) (l - i) K = K H') ∧ But b H H' ∧ H'.length = H.length := by
  by_cases h0 : l - i = 0
  · exact ⟨H, fun R K => by unfold hclr; rw [if_pos h0], .refl _ _, rfl⟩
  · obtain ⟨z, O⟩ := O
    obtain ⟨H', e, o, n, s⟩ := hst_own (o := i) (vs := mkCells [.int .i64 0] (l - i)) O (by rw [vcells_len, mkCells_v, vcells_len]; omega) (by
      rw [mkCells_v]; exact List.all_eq_true.2 fun v hv => by unfold vcells at hv; obtain ⟨j, _, rfl⟩ := List.mem_map.1 hv; rfl)
    exact ⟨H', fun R K => by unfold hclr; rw [if_neg h0]; exact e R K, ⟨by omega, fun i _ hne => s i hne⟩, n⟩
theorem cmp_l0 (k : Nat) (b l : Nat) (hl : l ≤ 1000000) (hk : l < k) {f : Nat → Int} : ∀ (m n i : Nat), m < n → l = i + m → 1 ≤ i → (∀ i', i' + 1 < i → f (i' + 1) ≠ f i') → ∀ (H : Heap), Oi H b l f →
    ∃ H' l', (∀ (R : Type) (KE KR : Option Addr → Nat → Nat → Heap → Option R), slices_Compact___int_int__l0 k KE KR n (some ⟨b, 0, none⟩) l unk (i : Int) H = if l' = l then KE (some ⟨b, 0, none⟩) l unk H' else KR (some ⟨b, 0, none⟩) l' unk H') ∧ (l' = l ↔ ¬ ∃ i, i + 1 < l ∧ f (i + 1) = f i) ∧ But b H H' ∧ H'.length = H.length := by
  intro m
  induction m with
  | zero =>
    intro n i hn hi h1 hno H O
    obtain ⟨n, rfl⟩ : ∃ n', n = n' + 1 := ⟨n - 1, by omega⟩
    refine ⟨H, l, fun R KE KR => ?_, ⟨fun _ ⟨i', h2, h3⟩ => hno i' (by omega) h3, fun _ => rfl⟩, .refl _ _, rfl⟩
    unfold slices_Compact___int_int__l0 slices_Compact___int_int__l0_b
    rw [if_pos rfl]
    exact go_f (decide_eq_false (by omega)) rfl
  | succ m ih =>
    intro n i hn hi h1 hno H O
    obtain ⟨n, rfl⟩ : ∃ n', n = n' + 1 := ⟨n - 1, by omega⟩
    have e1 : IntKind.wrap .i64 ((i : Int) - 1) = ((i - 1 : Nat) : Int) := by rw [w64 (by omega) (by omega)]; omega
    have start : ∀ (R : Type) (KE KR : Option Addr → Nat → Nat → Heap → Option R) (r : Option R), (bif (f i == f (i - 1)) then (hslc 1 (some ⟨b, 0, none⟩) l unk (some ((i : Nat) : Int)) none none fun q9 l10 c11 => slices_Compact___int_int__l1 k (fun q16 l17 c18 n19 H20 => hslc 1 q16 l17 c18 (some n19) none none fun q21 l22 c23 => hclr [.int .i64 0] H20 q21 l22 fun H24 => hslc 1 q16 l17 c18 none (some n19) none fun q25 l26 c27 => KR q25 l26 c27 H24) k (some ⟨b, 0, none⟩) l unk (i : Int) q9 l10 c11 1 H) else slices_Compact___int_int__l0 k KE KR n (some ⟨b, 0, none⟩) l unk (IntKind.wrap .i64 ((i : Int) + 1)) H) = r → slices_Compact___int_int__l0 k KE KR (n + 1) (some ⟨b, 0, none⟩) l unk (i : Int) H = r := by
      intro R KE KR r h
      unfold slices_Compact___int_int__l0 slices_Compact___int_int__l0_b
      refine go_t (decide_eq_true (by omega)) ((hx1 b l rfl (by omega) _ _).trans ((O.ld (by omega) _ _).trans ?_))
      rw [e1]
      exact (hx1 b l rfl (by omega) _ _).trans ((O.ld (by omega) _ _).trans h)
    by_cases he : f i = f (i - 1)
    · obtain ⟨H1, f1, i1, e2, O1, ⟨hi1, hi1'⟩, b1, n1⟩ := cmp_l1 k b l unk hl i unk (by omega) (l - i - 1) k 1 (by omega) (by omega) (by omega) H f i O (by omega) h1
      obtain ⟨H2, e3, b2, n2⟩ := clr_eq O1 (i := i1) (by omega)
      have hd : ∃ i, i + 1 < l ∧ f (i + 1) = f i := ⟨i - 1, by omega, by rw [show i - 1 + 1 = i from by omega]; exact he⟩
      have hu : l < unk := by unfold unk; omega
      refine ⟨H2, i1, fun R KE KR => start R KE KR _ ?_, ⟨fun h => by omega, fun h => (h hd).elim⟩, b1.trans b2, by omega⟩
      rw [if_neg (by omega)]
      refine go_t (by rw [he]; exact beq_self_eq_true _) ((slc_lo hu (by omega) (by omega) _ _).trans ?_)
      refine (e2 _ _).trans ((slc_lo hu (by omega) hi1 _ _).trans ((e3 _ _).trans ((slc_hi hu (by omega) _ _).trans rfl)))
    · obtain ⟨H1, l1, e2, hl1, b1, n1⟩ := ih n (i + 1) (by omega) (by omega) (by omega) (fun i' h2 h3 => by
        by_cases hc : i' + 1 = i
        · subst hc; exact he h3
        · exact hno i' (by omega) h3) H O
      refine ⟨H1, l1, fun R KE KR => start R KE KR _ ?_, hl1, b1, n1⟩
      refine go_f (by rw [beq_eq_false_iff_ne]; exact he) ?_
      rw [w64 (n := (i : Int) + 1) (by omega) (by omega)]
      exact e2 R KE KR
/-- Compact: as long as the row was, if no two that stand side by side are alike. -/
theorem compact_eq {k : Nat} {b l : Nat} (hl : l ≤ 1000000) (hk : l < k) {f : Nat → Int} {H : Heap} (O : Oi H b l f) :
    ∃ H' l', (∀ (R : Type) (K : Option Addr → Nat → Nat → Heap → Option R), slices_Compact___int_int_ k (some ⟨b, 0, none⟩) l unk H K = K (some ⟨b, 0, none⟩) l' unk H') ∧ (l' = l ↔ ¬ ∃ i, i + 1 < l ∧ f (i + 1) = f i) ∧ But b H H' ∧ H'.length = H.length := by
  by_cases h2 : l < 2
  · refine ⟨H, l, fun R K => ?_, ⟨fun _ ⟨i, hi, _⟩ => by omega, fun _ => rfl⟩, .refl _ _, rfl⟩
    unfold slices_Compact___int_int_ slices_Compact___int_int__b
    exact go_t (decide_eq_true (by omega)) rfl
  · obtain ⟨H1, l1, e, hl1, b1, n1⟩ := cmp_l0 k b l hl hk (f := f) (l - 1) k 1 (by omega) (by omega) (by omega) (fun i' h => by omega) H O
    refine ⟨H1, l1, fun R K => ?_, hl1, b1, n1⟩
    unfold slices_Compact___int_int_ slices_Compact___int_int__b
    refine go_f (decide_eq_false (by omega)) ((e _ _ _).trans ?_)
    split
    · rename_i h; subst h; rfl
    · rfl
end Go.Proofs.Ytkjcjlembepdkaa.Sh
