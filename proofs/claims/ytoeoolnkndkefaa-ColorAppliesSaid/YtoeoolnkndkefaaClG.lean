/- Color: Shift and Unshift, the reference's. -/
import Derived.Test.YtoeoolnkndkefaaClF
set_option linter.unusedVariables false
set_option linter.unusedSimpArgs false
namespace Go.Proofs.Ytoeoolnkndkefaa.Sh
open Go.Proofs.Ytoeoolnkndkefaa.FW
section
variable {d : Int} {s : Bool} {x y x0 y0 x1 y1 : Int}
/-- One more sample behind a row that grows within a plane of one's own. -/
theorem grow1 {N bo : Nat} {H : Heap} {q : Option Addr} {c : Nat} {ys : List Int} (hB : Bld N 1 H q ys.length c (ints ys)) (hO : Owns H bo (pl5 x0 y0 x1 y1 q ys.length c) 0) (hb : bo < N) (hN : N ≤ H.length) (hl : ys.length ≤ 2000000) (v : Int) :
    ∃ q' H1 H2, (∀ (R : Type) (K : Option Addr → Nat → Nat → Heap → Option R), happS 1 8 (H ++ [some ⟨[.int .i64 v], false, 0⟩]) q ys.length c (some ⟨H.length, 0, none⟩) 1 K = K q' (ys.length + 1) unk H1) ∧ (∀ (R : Type) (K : Heap → Option R), hst1 H1 (some ⟨bo, 4, none⟩) (.slice q' (ys.length + 1) unk) K = K H2) ∧
      Bld N 1 H2 q' (ys ++ [v]).length unk (ints (ys ++ [v])) ∧ Owns H2 bo (pl5 x0 y0 x1 y1 q' (ys ++ [v]).length unk) 0 ∧ Old bo H H2 ∧ N ≤ H2.length ∧ (∀ i, i < N → i ≠ bo → hblk H2 i = hblk H i) := by
  have hN1 : N ≤ (H ++ [some (⟨[.int .i64 v], false, 0⟩ : Blk)]).length := by simp; omega
  have hB1 : Bld N 1 (H ++ [some ⟨[.int .i64 v], false, 0⟩]) q ys.length c (ints ys) := hB.old (Old.app H _) (Nat.le_refl _)
  have hsh : Shows (H ++ [some (⟨[.int .i64 v], false, 0⟩ : Blk)]) (some ⟨H.length, 0, none⟩) [.int .i64 v] := Sees.shows ⟨_, hblk_new H _, rfl⟩
  obtain ⟨q', H1, e1, b1, o1, n1⟩ := hB1.app (bytes := 8) (n := 1) hN1 hsh rfl (by omega) (by omega)
  have o01 : Old N H H1 := ((Old.app H _).mono hN).trans o1
  have hO1 := hO.old o01 hb
  obtain ⟨H2, e2, O2, b2, n2⟩ := hO1.st1 (o := 4) (by simp [pl5]) (.slice q' (ys.length + 1) unk)
  refine ⟨q', H1, H2, e1, e2, ?_, ?_, (o01.mono (by omega)).trans (b2.old (Nat.le_refl _) (by omega)), by omega, fun i hi hne => ?_⟩
  · have := b1.but b2 hb
    rw [show ints (ys ++ [v]) = ints ys ++ [.int .i64 v] from by simp [ints], List.length_append]
    exact this
  · rw [List.length_append]; exact O2
  · rw [b2.2 i (by omega) hne, o01.2 i hi]
theorem shiftR_loop (k : Nat) (hk : 70 < k) {M : Nat} {xs : List Int} {q : Option Addr} (c : Nat) {ba bc br bo : Nat} (hd : dp d = true) (ha : ba ≠ bo) (hc : bc ≠ bo) (hr : br ≠ bo) (ma : ba < M) (mc : bc < M) (mr : br < M) (mo : bo < M) {N : Nat} (nN : N ≤ bo) (nr : N ≤ br) (hq : ints xs = [] ∨ Below N q) (hl : xs.length ≤ 2000000) :
    ∀ (m n i : Nat), m < n → xs.length = i + m → ∀ (H : Heap) (q' : Option Addr) (c' : Nat) (ys : List Int), ys.length = i → Shows H q (ints xs) → Sees H ba (pl5 x0 y0 x1 y1 q xs.length c) → Sees H bc (cmp4 d s x y) → Owns H br zero5 0 → Owns H bo (pl5 x0 y0 x1 y1 q' ys.length c') 0 → Bld M 1 H q' ys.length c' (ints ys) → M ≤ H.length →
    ∃ H', Old N H H' ∧ Owns H' br zero5 0 ∧
      (((xs.drop i).any (bad d s) = false ∧ ∃ q2 c2, (∀ (R : Type) (KE : Option Addr → Option Addr → Heap → Option R) (KR : Option Addr → Int → Heap → Option R), R07_Shift_l1 k KE KR n (some ⟨ba, 0, none⟩) (some ⟨bc, 0, none⟩) (some ⟨br, 0, none⟩) (lo d s) (hi d s) (some ⟨bo, 0, none⟩) (i : Int) H = KE (some ⟨br, 0, none⟩) (some ⟨bo, 0, none⟩) H') ∧
          Owns H' bo (pl5 x0 y0 x1 y1 q2 xs.length c2) 0 ∧ Bld M 1 H' q2 xs.length c2 (ints (ys ++ (xs.drop i).map (fun v => W (v - off d s))))) ∨
       ((xs.drop i).any (bad d s) = true ∧ ∀ (R : Type) (KE : Option Addr → Option Addr → Heap → Option R) (KR : Option Addr → Int → Heap → Option R), R07_Shift_l1 k KE KR n (some ⟨ba, 0, none⟩) (some ⟨bc, 0, none⟩) (some ⟨br, 0, none⟩) (lo d s) (hi d s) (some ⟨bo, 0, none⟩) (i : Int) H = KR (some ⟨br, 0, none⟩) 2 H')) := by
  intro m
  induction m with
  | zero =>
    intro n i hn hi' H q' c' ys hys hS hA hC hR hO hB hM
    obtain ⟨n, rfl⟩ : ∃ n', n = n' + 1 := ⟨n - 1, by omega⟩
    have hi0 : xs.length = i := by omega
    have hyx : ys.length = xs.length := by omega
    rw [hyx] at hO hB
    refine ⟨H, .refl _ _, hR, .inl ⟨by rw [List.drop_of_length_le (by omega)]; rfl, q', c', fun R KE KR => ?_, hO, by rw [List.drop_of_length_le (by omega)]; simpa using hB⟩⟩
    have ed : decide ((i : Int) < ((xs.length : Nat) : Int)) = false := decide_eq_false (by omega)
    have ma := hA.cell
    unfold pl5 at ma
    simp only [R07_Shift_l1, R07_Shift_l1_b]
    simp (disch := (first | assumption | omega | exact Nat.le_of_ble_eq_true rfl | (simp only [List.length_append, List.length_cons, List.length_nil]; omega))) only [ma, ed, hal_x, hmk_x, hcell_new, hcell_old, hidx_x, hfad_x, hnil_x, ldI_x, ldB_x, ldP_x, ldL_x, pad_some, get0, gets, ik64, ik8, ik32, iku64, cond_true, cond_false, hst_new, hst_old, splice_cc, splice_nn, one_n, one_i, one_b, one_p, one_s, one_t, Int.toNat_zero, Int.toNat_one, tn2, tn3, Nat.mul_one, Nat.zero_add, Nat.zero_mul, Nat.add_zero]
  | succ m ih =>
    intro n i hn hi' H q' c' ys hys hS hA hC hR hO hB hM
    obtain ⟨n, rfl⟩ : ∃ n', n = n' + 1 := ⟨n - 1, by omega⟩
    have hlt : i < xs.length := by omega
    have ed : decide ((i : Int) < ((xs.length : Nat) : Int)) = true := decide_eq_true (by omega)
    obtain ⟨p, e1, l1⟩ := int_at hS hlt
    have hdr : xs.drop i = xs.getD i 0 :: xs.drop (i + 1) := by
      rw [List.drop_eq_getElem_cons hlt, List.getD_eq_getElem?_getD, List.getElem?_eq_getElem hlt]; rfl
    rw [hdr, List.any_cons]
    generalize hv : xs.getD i 0 = v at l1
    have ma' := hA.cell
    unfold pl5 at ma'
    cases hb : bad d s v with
    | true =>
      obtain ⟨H', e2, O2, b2, n2⟩ := hR.st (vs := zero5) rfl rfl
      refine ⟨H', b2.old nr (by omega), O2, .inr ⟨rfl, fun R KE KR => ?_⟩⟩
      unfold zero5 at e2
      unfold bad at hb
      rw [Bool.or_eq_true, decide_eq_true_eq, decide_eq_true_eq] at hb
      simp only [R07_Shift_l1, R07_Shift_l1_b, R07_Shift_p2, R07_Shift_p2_b]
      by_cases c1 : v < lo d s
      · have d1 : decide (v < lo d s) = true := decide_eq_true c1
        simp (disch := (first | assumption | omega | exact Nat.le_of_ble_eq_true rfl | (simp only [List.length_append, List.length_cons, List.length_nil]; omega))) only [ma', ed, e1, l1, d1, e2, hal_x, hmk_x, hcell_new, hcell_old, hidx_x, hfad_x, hnil_x, ldI_x, ldB_x, ldP_x, ldL_x, pad_some, get0, gets, ik64, ik8, ik32, iku64, cond_true, cond_false, hst_new, hst_old, splice_cc, splice_nn, one_n, one_i, one_b, one_p, one_s, one_t, Int.toNat_zero, Int.toNat_one, tn2, tn3, Nat.mul_one, Nat.zero_add, Nat.zero_mul, Nat.add_zero]
      · have d1 : decide (v < lo d s) = false := decide_eq_false c1
        have d2 : decide (v > hi d s) = true := decide_eq_true (by omega)
        simp (disch := (first | assumption | omega | exact Nat.le_of_ble_eq_true rfl | (simp only [List.length_append, List.length_cons, List.length_nil]; omega))) only [ma', ed, e1, l1, d1, d2, e2, hal_x, hmk_x, hcell_new, hcell_old, hidx_x, hfad_x, hnil_x, ldI_x, ldB_x, ldP_x, ldL_x, pad_some, get0, gets, ik64, ik8, ik32, iku64, cond_true, cond_false, hst_new, hst_old, splice_cc, splice_nn, one_n, one_i, one_b, one_p, one_s, one_t, Int.toNat_zero, Int.toNat_one, tn2, tn3, Nat.mul_one, Nat.zero_add, Nat.zero_mul, Nat.add_zero]
    | false =>
      obtain ⟨J, e3⟩ := offsetR_eq k hk hd s x y (roH H)
      obtain ⟨q1, H1, H2, e4, e5, B2, O2, o2, n2, s2⟩ := grow1 hB hO mo hM (by omega) (W (v - off d s))
      have keep : ∀ {b cs}, b ≠ bo → b < M → Sees H b cs → Sees H2 b cs := fun {b cs} hne hlt h => by
        obtain ⟨B, h1, h2⟩ := h
        exact ⟨B, by rw [s2 b hlt hne]; exact h1, h2⟩
      have hR2 : Owns H2 br zero5 0 := by unfold Owns; rw [s2 br mr hr]; exact hR
      have oN : Old N H H2 := o2.mono nN
      obtain ⟨H', o', R', h'⟩ := ih n (i + 1) (by omega) (by omega) H2 q1 unk (ys ++ [W (v - off d s)]) (by simp [hys]) (hS.old oN hq) (keep ha ma hA) (keep hc mc hC) hR2 O2 B2 n2
      unfold bad at hb
      rw [Bool.or_eq_false_iff] at hb
      have mc' := hC.cell
      have mo' := hO.sees.cell
      unfold cmp4 at mc'
      unfold pl5 at mo'
      rw [hys] at mo' e4 e5
      unfold W at e4
      have ew : IntKind.wrap .i64 ((i : Int) + 1) = ((i + 1 : Nat) : Int) := by rw [w64 (by omega) (by omega)]; rfl
      have step : ∀ (R : Type) (KE : Option Addr → Option Addr → Heap → Option R) (KR : Option Addr → Int → Heap → Option R), R07_Shift_l1 k KE KR (n + 1) (some ⟨ba, 0, none⟩) (some ⟨bc, 0, none⟩) (some ⟨br, 0, none⟩) (lo d s) (hi d s) (some ⟨bo, 0, none⟩) (i : Int) H = R07_Shift_l1 k KE KR n (some ⟨ba, 0, none⟩) (some ⟨bc, 0, none⟩) (some ⟨br, 0, none⟩) (lo d s) (hi d s) (some ⟨bo, 0, none⟩) ((i + 1 : Nat) : Int) H2 := fun R KE KR => by
        simp only [R07_Shift_l1, R07_Shift_l1_b, R07_Shift_p2, R07_Shift_p2_b]
        simp (disch := (first | assumption | omega | exact Nat.le_of_ble_eq_true rfl | (simp only [List.length_append, List.length_cons, List.length_nil]; omega))) only [ma', ed, e1, l1, hb.1, hb.2, mo', mc', e3, e4, e5, ew, hal_x, hmk_x, hcell_new, hcell_old, hidx_x, hfad_x, hnil_x, ldI_x, ldB_x, ldP_x, ldL_x, pad_some, get0, gets, ik64, ik8, ik32, iku64, cond_true, cond_false, hst_new, hst_old, splice_cc, splice_nn, one_n, one_i, one_b, one_p, one_s, one_t, Int.toNat_zero, Int.toNat_one, tn2, tn3, Nat.mul_one, Nat.zero_add, Nat.zero_mul, Nat.add_zero]
      refine ⟨H', oN.trans o', R', ?_⟩
      rcases h' with ⟨a1, q2, c2, a2, a3, a4⟩ | ⟨a1, a2⟩
      · refine .inl ⟨by rw [Bool.false_or]; exact a1, q2, c2, fun R KE KR => (step R KE KR).trans (a2 R KE KR), a3, ?_⟩
        rw [List.append_assoc, hv] at *
        exact a4
      · exact .inr ⟨by rw [Bool.false_or]; exact a1, fun R KE KR => (step R KE KR).trans (a2 R KE KR)⟩
theorem unshiftR_loop (k : Nat) (hk : 70 < k) {M : Nat} {xs : List Int} {q : Option Addr} (c : Nat) {ba bc br bo : Nat} (hd : dp d = true) (ha : ba ≠ bo) (hc : bc ≠ bo) (hr : br ≠ bo) (ma : ba < M) (mc : bc < M) (mr : br < M) (mo : bo < M) {N : Nat} (nN : N ≤ bo) (nr : N ≤ br) (hq : ints xs = [] ∨ Below N q) (hl : xs.length ≤ 2000000) :
    ∀ (m n i : Nat), m < n → xs.length = i + m → ∀ (H : Heap) (q' : Option Addr) (c' : Nat) (ys : List Int), ys.length = i → Shows H q (ints xs) → Sees H ba (pl5 x0 y0 x1 y1 q xs.length c) → Sees H bc (cmp4 d s x y) → Owns H br zero5 0 → Owns H bo (pl5 x0 y0 x1 y1 q' ys.length c') 0 → Bld M 1 H q' ys.length c' (ints ys) → M ≤ H.length →
    ∃ H', Old N H H' ∧ Owns H' br zero5 0 ∧ ∃ q2 c2, (∀ (R : Type) (KE : Option Addr → Option Addr → Heap → Option R), R07_Unshift_l1 k KE n (some ⟨ba, 0, none⟩) (some ⟨bc, 0, none⟩) (some ⟨br, 0, none⟩) (lo d s) (hi d s) (some ⟨bo, 0, none⟩) (i : Int) H = KE (some ⟨br, 0, none⟩) (some ⟨bo, 0, none⟩) H') ∧
          Owns H' bo (pl5 x0 y0 x1 y1 q2 xs.length c2) 0 ∧ Bld M 1 H' q2 xs.length c2 (ints (ys ++ (xs.drop i).map (unv d s))) := by
  intro m
  induction m with
  | zero =>
    intro n i hn hi' H q' c' ys hys hS hA hC hR hO hB hM
    obtain ⟨n, rfl⟩ : ∃ n', n = n' + 1 := ⟨n - 1, by omega⟩
    have hi0 : xs.length = i := by omega
    have hyx : ys.length = xs.length := by omega
    rw [hyx] at hO hB
    refine ⟨H, .refl _ _, hR, q', c', fun R KE => ?_, hO, by rw [List.drop_of_length_le (by omega)]; simpa using hB⟩
    have ed : decide ((i : Int) < ((xs.length : Nat) : Int)) = false := decide_eq_false (by omega)
    have ma := hA.cell
    unfold pl5 at ma
    simp only [R07_Unshift_l1, R07_Unshift_l1_b]
    simp (disch := (first | assumption | omega | exact Nat.le_of_ble_eq_true rfl | (simp only [List.length_append, List.length_cons, List.length_nil]; omega))) only [ma, ed, hal_x, hmk_x, hcell_new, hcell_old, hidx_x, hfad_x, hnil_x, ldI_x, ldB_x, ldP_x, ldL_x, pad_some, get0, gets, ik64, ik8, ik32, iku64, cond_true, cond_false, hst_new, hst_old, splice_cc, splice_nn, one_n, one_i, one_b, one_p, one_s, one_t, Int.toNat_zero, Int.toNat_one, tn2, tn3, Nat.mul_one, Nat.zero_add, Nat.zero_mul, Nat.add_zero]
  | succ m ih =>
    intro n i hn hi' H q' c' ys hys hS hA hC hR hO hB hM
    obtain ⟨n, rfl⟩ : ∃ n', n = n' + 1 := ⟨n - 1, by omega⟩
    have hlt : i < xs.length := by omega
    have ed : decide ((i : Int) < ((xs.length : Nat) : Int)) = true := decide_eq_true (by omega)
    obtain ⟨p, e1, l1⟩ := int_at hS hlt
    have hdr : xs.drop i = xs.getD i 0 :: xs.drop (i + 1) := by
      rw [List.drop_eq_getElem_cons hlt, List.getD_eq_getElem?_getD, List.getElem?_eq_getElem hlt]; rfl
    rw [hdr]
    generalize hv : xs.getD i 0 = v at l1
    have ma' := hA.cell
    unfold pl5 at ma'
    obtain ⟨J, e3⟩ := offsetR_eq k hk hd s x y (roH H)
    obtain ⟨q1, H1, H2, e4, e5, B2, O2, o2, n2, s2⟩ := grow1 hB hO mo hM (by omega) (unv d s v)
    have keep : ∀ {b cs}, b ≠ bo → b < M → Sees H b cs → Sees H2 b cs := fun {b cs} hne hlt h => by
      obtain ⟨B, h1, h2⟩ := h
      exact ⟨B, by rw [s2 b hlt hne]; exact h1, h2⟩
    have hR2 : Owns H2 br zero5 0 := by unfold Owns; rw [s2 br mr hr]; exact hR
    have oN : Old N H H2 := o2.mono nN
    obtain ⟨H', o', R', q2, c2, a2, a3, a4⟩ := ih n (i + 1) (by omega) (by omega) H2 q1 unk (ys ++ [unv d s v]) (by simp [hys]) (hS.old oN hq) (keep ha ma hA) (keep hc mc hC) hR2 O2 B2 n2
    have mc' := hC.cell
    have mo' := hO.sees.cell
    unfold cmp4 at mc'
    unfold pl5 at mo'
    rw [hys] at mo' e4 e5
    unfold unv W at e4
    have ew : IntKind.wrap .i64 ((i : Int) + 1) = ((i + 1 : Nat) : Int) := by rw [w64 (by omega) (by omega)]; rfl
    refine ⟨H', oN.trans o', R', q2, c2, fun R KE => ?_, a3, ?_⟩
    · refine Eq.trans ?_ (a2 R KE)
      simp only [R07_Unshift_l1, R07_Unshift_l1_b]
      simp (disch := (first | assumption | omega | exact Nat.le_of_ble_eq_true rfl | (simp only [List.length_append, List.length_cons, List.length_nil]; omega))) only [ma', ed, e1, l1, mc', mo', e3, e4, e5, ew, hal_x, hmk_x, hcell_new, hcell_old, hidx_x, hfad_x, hnil_x, ldI_x, ldB_x, ldP_x, ldL_x, pad_some, get0, gets, ik64, ik8, ik32, iku64, cond_true, cond_false, hst_new, hst_old, splice_cc, splice_nn, one_n, one_i, one_b, one_p, one_s, one_t, Int.toNat_zero, Int.toNat_one, tn2, tn3, Nat.mul_one, Nat.zero_add, Nat.zero_mul, Nat.add_zero]
    · rw [List.append_assoc] at a4
      exact a4
end
set_option maxHeartbeats 4000000 in
theorem ShiftR_eq (k : Nat) (hk : 500 < k) {H : Heap} {q : Option Addr} {xs : List Int} (hS : Shows H q (ints xs)) (hl : xs.length ≤ 400) (x0 y0 x1 y1 : Int) (c : Nat) (d : Int) (s : Bool) (x y : Int) :
    ∃ q' c' H', (∀ (R : Type) (K : Int → Int → Int → Int → Option Addr → Nat → Nat → Int → Heap → Option R), R07_Shift k x0 y0 x1 y1 q xs.length c d s x y H K = K (zz (shf x0 y0 x1 y1 xs d s).1 x0) (zz (shf x0 y0 x1 y1 xs d s).1 y0) (zz (shf x0 y0 x1 y1 xs d s).1 x1) (zz (shf x0 y0 x1 y1 xs d s).1 y1) q' (shf x0 y0 x1 y1 xs d s).2.length c' (shf x0 y0 x1 y1 xs d s).1 H') ∧ Shows H' q' (ints (shf x0 y0 x1 y1 xs d s).2) ∧ Old H.length H H' := by
  obtain ⟨J1, e1⟩ := planeValidR_eq x0 y0 x1 y1 q xs.length c (H ++ [some ⟨[.int .i64 x0, .int .i64 y0, .int .i64 x1, .int .i64 y1, .slice q xs.length c], false, 0⟩] ++ [some ⟨[.int .i64 d, .bool s, .int .i64 x, .int .i64 y], false, 0⟩] ++ [some ⟨[.int .i64 0, .int .i64 0, .int .i64 0, .int .i64 0, .slice none 0 0], false, 0⟩])
  unfold shf
  cases hv : pv x0 y0 x1 y1 xs.length with
  | false =>
    rw [hv] at e1
    refine ⟨none, 0, ?J1, fun R K => ?M1, .inl rfl, ?O1⟩
    case M1 =>
      unfold R07_Shift R07_Shift_b
      simp (disch := (first | assumption | omega | exact Nat.le_of_ble_eq_true rfl | (simp only [List.length_append, List.length_cons, List.length_nil]; omega))) only [e1, Bool.not_false, hal_x, hmk_x, hcell_new, hcell_old, hidx_x, hfad_x, hnil_x, ldI_x, ldB_x, ldP_x, ldL_x, pad_some, get0, gets, ik64, ik8, ik32, iku64, cond_true, cond_false, hst_new, hst_old, splice_cc, splice_nn, one_n, one_i, one_b, one_p, one_s, one_t, Int.toNat_zero, Int.toNat_one, tn2, tn3, Nat.mul_one, Nat.zero_add, Nat.zero_mul, Nat.add_zero]
      rfl
    case O1 => simp only [List.append_assoc]; exact Old.app _ _
  | true =>
    rw [hv] at e1
    cases hd : dp d with
    | false =>
      by_cases c1 : d < 1
      · have k1 : decide (d < 1) = true := decide_eq_true c1
        refine ⟨none, 0, ?J2, fun R K => ?M2, .inl rfl, ?O2⟩
        case M2 =>
          unfold R07_Shift R07_Shift_b R07_Shift_p0 R07_Shift_p0_b
          simp (disch := (first | assumption | omega | exact Nat.le_of_ble_eq_true rfl | (simp only [List.length_append, List.length_cons, List.length_nil]; omega))) only [e1, Bool.not_true, Bool.not_false, k1, hal_x, hmk_x, hcell_new, hcell_old, hidx_x, hfad_x, hnil_x, ldI_x, ldB_x, ldP_x, ldL_x, pad_some, get0, gets, ik64, ik8, ik32, iku64, cond_true, cond_false, hst_new, hst_old, splice_cc, splice_nn, one_n, one_i, one_b, one_p, one_s, one_t, Int.toNat_zero, Int.toNat_one, tn2, tn3, Nat.mul_one, Nat.zero_add, Nat.zero_mul, Nat.add_zero]
          rfl
        case O2 => simp only [List.append_assoc]; exact Old.app _ _
      · have k1 : decide (d < 1) = false := decide_eq_false c1
        have k2 : decide (d > 16) = true := by
          unfold dp at hd
          simp only [Bool.and_eq_false_iff, decide_eq_false_iff_not] at hd
          exact decide_eq_true (by omega)
        refine ⟨none, 0, ?J3, fun R K => ?M3, .inl rfl, ?O3⟩
        case M3 =>
          unfold R07_Shift R07_Shift_b R07_Shift_p0 R07_Shift_p0_b
          simp (disch := (first | assumption | omega | exact Nat.le_of_ble_eq_true rfl | (simp only [List.length_append, List.length_cons, List.length_nil]; omega))) only [e1, Bool.not_true, Bool.not_false, k1, k2, hal_x, hmk_x, hcell_new, hcell_old, hidx_x, hfad_x, hnil_x, ldI_x, ldB_x, ldP_x, ldL_x, pad_some, get0, gets, ik64, ik8, ik32, iku64, cond_true, cond_false, hst_new, hst_old, splice_cc, splice_nn, one_n, one_i, one_b, one_p, one_s, one_t, Int.toNat_zero, Int.toNat_one, tn2, tn3, Nat.mul_one, Nat.zero_add, Nat.zero_mul, Nat.add_zero]
          rfl
        case O3 => simp only [List.append_assoc]; exact Old.app _ _
    | true =>
      have hdp := dp_of hd
      have k1 : decide (d < 1) = false := decide_eq_false (by omega)
      have k2 : decide (d > 16) = false := decide_eq_false (by omega)
      have hall : ∃ HL ba bc br bo, Old H.length H HL ∧ ba < HL.length ∧ bc < HL.length ∧ H.length ≤ br ∧ br < HL.length ∧ H.length ≤ bo ∧ bo < HL.length ∧ ba ≠ bo ∧ bc ≠ bo ∧ br ≠ bo ∧ Sees HL ba (pl5 x0 y0 x1 y1 q xs.length c) ∧ Sees HL bc (cmp4 d s x y) ∧ Owns HL br zero5 0 ∧ Owns HL bo (pl5 x0 y0 x1 y1 none 0 0) 0 ∧
          ∀ (R : Type) (K : Int → Int → Int → Int → Option Addr → Nat → Nat → Int → Heap → Option R), R07_Shift k x0 y0 x1 y1 q xs.length c d s x y H K = R07_Shift_l1 k (fun p247 p248 H249 =>
            ldI .i64 H249 (pad p248 0) fun n250 => ldI .i64 H249 (pad p248 1) fun n251 => ldI .i64 H249 (pad p248 2) fun n252 => ldI .i64 H249 (pad p248 3) fun n253 => ldL H249 (pad p248 4) fun q254 l255 c256 =>
            hst H249 p247 [.int .i64 n250, .int .i64 n251, .int .i64 n252, .int .i64 n253, .slice q254 l255 c256] fun H257 =>
            ldI .i64 H257 (pad p247 0) fun n258 => ldI .i64 H257 (pad p247 1) fun n259 => ldI .i64 H257 (pad p247 2) fun n260 => ldI .i64 H257 (pad p247 3) fun n261 => ldL H257 (pad p247 4) fun q262 l263 c264 => K n258 n259 n260 n261 q262 l263 c264 0 H257)
            (fun p265 n266 H267 => ldI .i64 H267 (pad p265 0) fun n268 => ldI .i64 H267 (pad p265 1) fun n269 => ldI .i64 H267 (pad p265 2) fun n270 => ldI .i64 H267 (pad p265 3) fun n271 => ldL H267 (pad p265 4) fun q272 l273 c274 => K n268 n269 n270 n271 q272 l273 c274 n266 H267)
            k (some ⟨ba, 0, none⟩) (some ⟨bc, 0, none⟩) (some ⟨br, 0, none⟩) (lo d s) (hi d s) (some ⟨bo, 0, none⟩) 0 HL := by
        obtain ⟨J2, e2⟩ := RangeR_eq k (by omega) d s x y (H ++ [some ⟨[.int .i64 x0, .int .i64 y0, .int .i64 x1, .int .i64 y1, .slice q xs.length c], false, 0⟩] ++ [some ⟨[.int .i64 d, .bool s, .int .i64 x, .int .i64 y], false, 0⟩] ++ [some ⟨[.int .i64 0, .int .i64 0, .int .i64 0, .int .i64 0, .slice none 0 0], false, 0⟩] ++ J1)
        refine ⟨?HL, ?ba, ?bc, ?br, ?bo, ?o1, ?o2, ?o3, ?o4, ?o5, ?o6, ?o7, ?o8, ?o9, ?oa, ?s1, ?s2, ?s3, ?s4, fun R K => ?main⟩
        case main =>
          unfold R07_Shift R07_Shift_b R07_Shift_p0 R07_Shift_p0_b
          simp (disch := (first | assumption | omega | exact Nat.le_of_ble_eq_true rfl | (simp only [List.length_append, List.length_cons, List.length_nil]; omega))) only [e1, Bool.not_true, k1, k2, e2, hal_x, hmk_x, hcell_new, hcell_old, hidx_x, hfad_x, hnil_x, ldI_x, ldB_x, ldP_x, ldL_x, pad_some, get0, gets, ik64, ik8, ik32, iku64, cond_true, cond_false, hst_new, hst_old, splice_cc, splice_nn, one_n, one_i, one_b, one_p, one_s, one_t, Int.toNat_zero, Int.toNat_one, tn2, tn3, Nat.mul_one, Nat.zero_add, Nat.zero_mul, Nat.add_zero]
          rfl
        case o1 => simp only [List.append_assoc]; exact Old.app _ _
        case o2 => simp only [List.length_append, List.length_cons, List.length_nil]; omega
        case o3 => simp only [List.length_append, List.length_cons, List.length_nil]; omega
        case o4 => simp only [List.length_append, List.length_cons, List.length_nil]; omega
        case o5 => simp only [List.length_append, List.length_cons, List.length_nil]; omega
        case o6 => simp only [List.length_append, List.length_cons, List.length_nil]; omega
        case o7 => simp only [List.length_append, List.length_cons, List.length_nil]; omega
        case o8 => simp only [List.length_append, List.length_cons, List.length_nil, ne_eq]; omega
        case o9 => simp only [List.length_append, List.length_cons, List.length_nil, ne_eq]; omega
        case oa => simp only [List.length_append, List.length_cons, List.length_nil, ne_eq]; omega
        case s1 => exact ⟨⟨pl5 x0 y0 x1 y1 q xs.length c, false, 0⟩, by unfold pl5; simp (disch := (first | assumption | omega | exact Nat.le_of_ble_eq_true rfl | (simp only [List.length_append, List.length_cons, List.length_nil]; omega))) only [hblk_new, hblk_old], rfl⟩
        case s2 => exact ⟨⟨cmp4 d s x y, false, 0⟩, by unfold cmp4; simp (disch := (first | assumption | omega | exact Nat.le_of_ble_eq_true rfl | (simp only [List.length_append, List.length_cons, List.length_nil]; omega))) only [hblk_new, hblk_old], rfl⟩
        case s3 => unfold Owns zero5; simp (disch := (first | assumption | omega | exact Nat.le_of_ble_eq_true rfl | (simp only [List.length_append, List.length_cons, List.length_nil]; omega))) only [hblk_new, hblk_old]
        case s4 => unfold Owns pl5; simp (disch := (first | assumption | omega | exact Nat.le_of_ble_eq_true rfl | (simp only [List.length_append, List.length_cons, List.length_nil]; omega))) only [hblk_new, hblk_old]
      obtain ⟨HL, ba, bc, br, bo, o1, o2, o3, o4, o5, o6, o7, o8, o9, oa, s1, s2, s3, s4, em⟩ := hall
      have hb : ints xs = [] ∨ Below H.length q := by
        rcases hS with h | ⟨b, o, full, rfl, h1, _⟩
        · exact .inl h
        · exact .inr fun a ha => by cases ha; exact h1.lt
      obtain ⟨H', p1, p2, p3⟩ := shiftR_loop k (by omega) (M := HL.length) c hd o8 o9 oa o2 o3 o5 o7 o6 o4 hb (by omega) xs.length k 0 (by omega) (by omega) HL none 0 [] rfl (hS.keep o1) s1 s2 s3 s4 (Bld.nil _ _ _) (Nat.le_refl _)
      simp only [List.drop_zero, Int.natCast_zero] at p3
      rcases p3 with ⟨r1, q2, c2, r2, r3, r4⟩ | ⟨r1, r2⟩
      · obtain ⟨H2, e3, O2, b2, n2⟩ := p2.st (vs := pl5 x0 y0 x1 y1 q2 xs.length c2) rfl rfl
        have mp := r3.sees.cell
        have mr := O2.sees.cell
        unfold pl5 at mp mr e3
        rw [r1]
        refine ⟨q2, c2, H2, fun R K => ?_, ?_, o1.trans (p1.trans (b2.old o4 (by have := p1.1; have := o1.1; omega)))⟩
        · rw [em, r2]
          simp (disch := (first | assumption | omega | exact Nat.le_of_ble_eq_true rfl | (simp only [List.length_append, List.length_cons, List.length_nil]; omega))) only [mp, mr, e3, hal_x, hmk_x, hcell_new, hcell_old, hidx_x, hfad_x, hnil_x, ldI_x, ldB_x, ldP_x, ldL_x, pad_some, get0, gets, ik64, ik8, ik32, iku64, cond_true, cond_false, hst_new, hst_old, splice_cc, splice_nn, one_n, one_i, one_b, one_p, one_s, one_t, Int.toNat_zero, Int.toNat_one, tn2, tn3, Nat.mul_one, Nat.zero_add, Nat.zero_mul, Nat.add_zero]
          simp only [List.length_map]
          rfl
        · exact (r4.but b2 o5).shows.1
      · have mr := p2.sees.cell
        unfold zero5 at mr
        rw [r1]
        refine ⟨none, 0, H', fun R K => ?_, .inl rfl, o1.trans p1⟩
        rw [em, r2]
        simp (disch := (first | assumption | omega | exact Nat.le_of_ble_eq_true rfl | (simp only [List.length_append, List.length_cons, List.length_nil]; omega))) only [mr, hal_x, hmk_x, hcell_new, hcell_old, hidx_x, hfad_x, hnil_x, ldI_x, ldB_x, ldP_x, ldL_x, pad_some, get0, gets, ik64, ik8, ik32, iku64, cond_true, cond_false, hst_new, hst_old, splice_cc, splice_nn, one_n, one_i, one_b, one_p, one_s, one_t, Int.toNat_zero, Int.toNat_one, tn2, tn3, Nat.mul_one, Nat.zero_add, Nat.zero_mul, Nat.add_zero]
        rfl
set_option maxHeartbeats 4000000 in
theorem UnshiftR_eq (k : Nat) (hk : 500 < k) {H : Heap} {q : Option Addr} {xs : List Int} (hS : Shows H q (ints xs)) (hl : xs.length ≤ 400) (x0 y0 x1 y1 : Int) (c : Nat) (d : Int) (s : Bool) (x y : Int) :
    ∃ q' c' H', (∀ (R : Type) (K : Int → Int → Int → Int → Option Addr → Nat → Nat → Int → Heap → Option R), R07_Unshift k x0 y0 x1 y1 q xs.length c d s x y H K = K (zz (usf x0 y0 x1 y1 xs d s).1 x0) (zz (usf x0 y0 x1 y1 xs d s).1 y0) (zz (usf x0 y0 x1 y1 xs d s).1 x1) (zz (usf x0 y0 x1 y1 xs d s).1 y1) q' (usf x0 y0 x1 y1 xs d s).2.length c' (usf x0 y0 x1 y1 xs d s).1 H') ∧ Shows H' q' (ints (usf x0 y0 x1 y1 xs d s).2) ∧ Old H.length H H' := by
  obtain ⟨J1, e1⟩ := planeValidR_eq x0 y0 x1 y1 q xs.length c (H ++ [some ⟨[.int .i64 x0, .int .i64 y0, .int .i64 x1, .int .i64 y1, .slice q xs.length c], false, 0⟩] ++ [some ⟨[.int .i64 d, .bool s, .int .i64 x, .int .i64 y], false, 0⟩] ++ [some ⟨[.int .i64 0, .int .i64 0, .int .i64 0, .int .i64 0, .slice none 0 0], false, 0⟩])
  unfold usf
  cases hv : pv x0 y0 x1 y1 xs.length with
  | false =>
    rw [hv] at e1
    refine ⟨none, 0, ?J1, fun R K => ?M1, .inl rfl, ?O1⟩
    case M1 =>
      unfold R07_Unshift R07_Unshift_b
      simp (disch := (first | assumption | omega | exact Nat.le_of_ble_eq_true rfl | (simp only [List.length_append, List.length_cons, List.length_nil]; omega))) only [e1, Bool.not_false, hal_x, hmk_x, hcell_new, hcell_old, hidx_x, hfad_x, hnil_x, ldI_x, ldB_x, ldP_x, ldL_x, pad_some, get0, gets, ik64, ik8, ik32, iku64, cond_true, cond_false, hst_new, hst_old, splice_cc, splice_nn, one_n, one_i, one_b, one_p, one_s, one_t, Int.toNat_zero, Int.toNat_one, tn2, tn3, Nat.mul_one, Nat.zero_add, Nat.zero_mul, Nat.add_zero]
      rfl
    case O1 => simp only [List.append_assoc]; exact Old.app _ _
  | true =>
    rw [hv] at e1
    cases hd : dp d with
    | false =>
      by_cases c1 : d < 1
      · have k1 : decide (d < 1) = true := decide_eq_true c1
        refine ⟨none, 0, ?J2, fun R K => ?M2, .inl rfl, ?O2⟩
        case M2 =>
          unfold R07_Unshift R07_Unshift_b R07_Unshift_p0 R07_Unshift_p0_b
          simp (disch := (first | assumption | omega | exact Nat.le_of_ble_eq_true rfl | (simp only [List.length_append, List.length_cons, List.length_nil]; omega))) only [e1, Bool.not_true, Bool.not_false, k1, hal_x, hmk_x, hcell_new, hcell_old, hidx_x, hfad_x, hnil_x, ldI_x, ldB_x, ldP_x, ldL_x, pad_some, get0, gets, ik64, ik8, ik32, iku64, cond_true, cond_false, hst_new, hst_old, splice_cc, splice_nn, one_n, one_i, one_b, one_p, one_s, one_t, Int.toNat_zero, Int.toNat_one, tn2, tn3, Nat.mul_one, Nat.zero_add, Nat.zero_mul, Nat.add_zero]
          rfl
        case O2 => simp only [List.append_assoc]; exact Old.app _ _
      · have k1 : decide (d < 1) = false := decide_eq_false c1
        have k2 : decide (d > 16) = true := by
          unfold dp at hd
          simp only [Bool.and_eq_false_iff, decide_eq_false_iff_not] at hd
          exact decide_eq_true (by omega)
        refine ⟨none, 0, ?J3, fun R K => ?M3, .inl rfl, ?O3⟩
        case M3 =>
          unfold R07_Unshift R07_Unshift_b R07_Unshift_p0 R07_Unshift_p0_b
          simp (disch := (first | assumption | omega | exact Nat.le_of_ble_eq_true rfl | (simp only [List.length_append, List.length_cons, List.length_nil]; omega))) only [e1, Bool.not_true, Bool.not_false, k1, k2, hal_x, hmk_x, hcell_new, hcell_old, hidx_x, hfad_x, hnil_x, ldI_x, ldB_x, ldP_x, ldL_x, pad_some, get0, gets, ik64, ik8, ik32, iku64, cond_true, cond_false, hst_new, hst_old, splice_cc, splice_nn, one_n, one_i, one_b, one_p, one_s, one_t, Int.toNat_zero, Int.toNat_one, tn2, tn3, Nat.mul_one, Nat.zero_add, Nat.zero_mul, Nat.add_zero]
          rfl
        case O3 => simp only [List.append_assoc]; exact Old.app _ _
    | true =>
      have hdp := dp_of hd
      have k1 : decide (d < 1) = false := decide_eq_false (by omega)
      have k2 : decide (d > 16) = false := decide_eq_false (by omega)
      have hall : ∃ HL ba bc br bo, Old H.length H HL ∧ ba < HL.length ∧ bc < HL.length ∧ H.length ≤ br ∧ br < HL.length ∧ H.length ≤ bo ∧ bo < HL.length ∧ ba ≠ bo ∧ bc ≠ bo ∧ br ≠ bo ∧ Sees HL ba (pl5 x0 y0 x1 y1 q xs.length c) ∧ Sees HL bc (cmp4 d s x y) ∧ Owns HL br zero5 0 ∧ Owns HL bo (pl5 x0 y0 x1 y1 none 0 0) 0 ∧
          ∀ (R : Type) (K : Int → Int → Int → Int → Option Addr → Nat → Nat → Int → Heap → Option R), R07_Unshift k x0 y0 x1 y1 q xs.length c d s x y H K = R07_Unshift_l1 k (fun p247 p248 H249 =>
            ldI .i64 H249 (pad p248 0) fun n250 => ldI .i64 H249 (pad p248 1) fun n251 => ldI .i64 H249 (pad p248 2) fun n252 => ldI .i64 H249 (pad p248 3) fun n253 => ldL H249 (pad p248 4) fun q254 l255 c256 =>
            hst H249 p247 [.int .i64 n250, .int .i64 n251, .int .i64 n252, .int .i64 n253, .slice q254 l255 c256] fun H257 =>
            ldI .i64 H257 (pad p247 0) fun n258 => ldI .i64 H257 (pad p247 1) fun n259 => ldI .i64 H257 (pad p247 2) fun n260 => ldI .i64 H257 (pad p247 3) fun n261 => ldL H257 (pad p247 4) fun q262 l263 c264 => K n258 n259 n260 n261 q262 l263 c264 0 H257)
            k (some ⟨ba, 0, none⟩) (some ⟨bc, 0, none⟩) (some ⟨br, 0, none⟩) (lo d s) (hi d s) (some ⟨bo, 0, none⟩) 0 HL := by
        obtain ⟨J2, e2⟩ := RangeR_eq k (by omega) d s x y (H ++ [some ⟨[.int .i64 x0, .int .i64 y0, .int .i64 x1, .int .i64 y1, .slice q xs.length c], false, 0⟩] ++ [some ⟨[.int .i64 d, .bool s, .int .i64 x, .int .i64 y], false, 0⟩] ++ [some ⟨[.int .i64 0, .int .i64 0, .int .i64 0, .int .i64 0, .slice none 0 0], false, 0⟩] ++ J1)
        refine ⟨?HL, ?ba, ?bc, ?br, ?bo, ?o1, ?o2, ?o3, ?o4, ?o5, ?o6, ?o7, ?o8, ?o9, ?oa, ?s1, ?s2, ?s3, ?s4, fun R K => ?main⟩
        case main =>
          unfold R07_Unshift R07_Unshift_b R07_Unshift_p0 R07_Unshift_p0_b
          simp (disch := (first | assumption | omega | exact Nat.le_of_ble_eq_true rfl | (simp only [List.length_append, List.length_cons, List.length_nil]; omega))) only [e1, Bool.not_true, k1, k2, e2, hal_x, hmk_x, hcell_new, hcell_old, hidx_x, hfad_x, hnil_x, ldI_x, ldB_x, ldP_x, ldL_x, pad_some, get0, gets, ik64, ik8, ik32, iku64, cond_true, cond_false, hst_new, hst_old, splice_cc, splice_nn, one_n, one_i, one_b, one_p, one_s, one_t, Int.toNat_zero, Int.toNat_one, tn2, tn3, Nat.mul_one, Nat.zero_add, Nat.zero_mul, Nat.add_zero]
          rfl
        case o1 => simp only [List.append_assoc]; exact Old.app _ _
        case o2 => simp only [List.length_append, List.length_cons, List.length_nil]; omega
        case o3 => simp only [List.length_append, List.length_cons, List.length_nil]; omega
        case o4 => simp only [List.length_append, List.length_cons, List.length_nil]; omega
        case o5 => simp only [List.length_append, List.length_cons, List.length_nil]; omega
        case o6 => simp only [List.length_append, List.length_cons, List.length_nil]; omega
        case o7 => simp only [List.length_append, List.length_cons, List.length_nil]; omega
        case o8 => simp only [List.length_append, List.length_cons, List.length_nil, ne_eq]; omega
        case o9 => simp only [List.length_append, List.length_cons, List.length_nil, ne_eq]; omega
        case oa => simp only [List.length_append, List.length_cons, List.length_nil, ne_eq]; omega
        case s1 => exact ⟨⟨pl5 x0 y0 x1 y1 q xs.length c, false, 0⟩, by unfold pl5; simp (disch := (first | assumption | omega | exact Nat.le_of_ble_eq_true rfl | (simp only [List.length_append, List.length_cons, List.length_nil]; omega))) only [hblk_new, hblk_old], rfl⟩
        case s2 => exact ⟨⟨cmp4 d s x y, false, 0⟩, by unfold cmp4; simp (disch := (first | assumption | omega | exact Nat.le_of_ble_eq_true rfl | (simp only [List.length_append, List.length_cons, List.length_nil]; omega))) only [hblk_new, hblk_old], rfl⟩
        case s3 => unfold Owns zero5; simp (disch := (first | assumption | omega | exact Nat.le_of_ble_eq_true rfl | (simp only [List.length_append, List.length_cons, List.length_nil]; omega))) only [hblk_new, hblk_old]
        case s4 => unfold Owns pl5; simp (disch := (first | assumption | omega | exact Nat.le_of_ble_eq_true rfl | (simp only [List.length_append, List.length_cons, List.length_nil]; omega))) only [hblk_new, hblk_old]
      obtain ⟨HL, ba, bc, br, bo, o1, o2, o3, o4, o5, o6, o7, o8, o9, oa, s1, s2, s3, s4, em⟩ := hall
      have hb : ints xs = [] ∨ Below H.length q := by
        rcases hS with h | ⟨b, o, full, rfl, h1, _⟩
        · exact .inl h
        · exact .inr fun a ha => by cases ha; exact h1.lt
      obtain ⟨H', p1, p2, q2, c2, r2, r3, r4⟩ := unshiftR_loop k (by omega) (M := HL.length) c hd o8 o9 oa o2 o3 o5 o7 o6 o4 hb (by omega) xs.length k 0 (by omega) (by omega) HL none 0 [] rfl (hS.keep o1) s1 s2 s3 s4 (Bld.nil _ _ _) (Nat.le_refl _)
      simp only [Int.natCast_zero] at r2
      obtain ⟨H2, e3, O2, b2, n2⟩ := p2.st (vs := pl5 x0 y0 x1 y1 q2 xs.length c2) rfl rfl
      have mp := r3.sees.cell
      have mr := O2.sees.cell
      unfold pl5 at mp mr e3
      refine ⟨q2, c2, H2, fun R K => ?_, ?_, o1.trans (p1.trans (b2.old o4 (by have := p1.1; have := o1.1; omega)))⟩
      · rw [em, r2]
        simp (disch := (first | assumption | omega | exact Nat.le_of_ble_eq_true rfl | (simp only [List.length_append, List.length_cons, List.length_nil]; omega))) only [mp, mr, e3, hal_x, hmk_x, hcell_new, hcell_old, hidx_x, hfad_x, hnil_x, ldI_x, ldB_x, ldP_x, ldL_x, pad_some, get0, gets, ik64, ik8, ik32, iku64, cond_true, cond_false, hst_new, hst_old, splice_cc, splice_nn, one_n, one_i, one_b, one_p, one_s, one_t, Int.toNat_zero, Int.toNat_one, tn2, tn3, Nat.mul_one, Nat.zero_add, Nat.zero_mul, Nat.add_zero]
        simp only [List.length_map]
        rfl
      · exact (r4.but b2 o5).shows.1
end Go.Proofs.Ytoeoolnkndkefaa.Sh
