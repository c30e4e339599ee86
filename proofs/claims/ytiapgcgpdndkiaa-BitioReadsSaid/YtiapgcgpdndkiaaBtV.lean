/- Bitio: the reference's reader, its calls. -/
import Derived.Test.YtiapgcgpdndkiaaBtU
import Derived.Test.YtiapgcgpdndkiaaBtT
import Derived.Test.YtiapgcgpdndkiaaSh13
set_option linter.unusedVariables false
set_option linter.unusedSimpArgs false
namespace Go.Proofs.Ytiapgcgpdndkiaa.Sh
open Go.Proofs.Ytiapgcgpdndkiaa.FW Go.IntWalk
theorem uback_eq {H : Heap} {p : Nat} {q : Option Addr} {bs : List Int} {s s' : Nat × Nat} (h : Rd H p q bs s) (hs : Okr bs s') : ∃ H2, (∀ (R : Type) (K : Heap → Option R), R09_Reader_back (some ⟨p, 0, none⟩) ((s'.1 : Nat) : Int) ((s'.2 : Nat) : Int) H K = K H2) ∧ Rd H2 p q bs s' ∧ But p H H2 := by
  obtain ⟨H1, H2, e1, e2, R2, b2⟩ := h.undo hs
  refine ⟨H2, fun R K => ?_, R2, b2⟩
  unfold R09_Reader_back R09_Reader_back_b
  repeat (first | (with_reducible refine (e1 _ _).trans ?_) | (with_reducible refine (e2 _ _).trans ?_) | ((with_reducible refine go_ip (x := ?_) ?_ ?_); rotate_left 1; (first  | rfl)) | ((with_reducible refine go_bp (x := ?_) ?_ ?_); rotate_left 1; (first  | rfl)) | ((with_reducible refine go_lp (x := ?_) (l := ?_) (c := ?_) ?_ ?_); rotate_left 3; (first  | rfl)) | ((with_reducible refine go_pp (x := ?_) ?_ ?_); rotate_left 1; (first  | rfl)) | ((with_reducible refine go_i (x := ?_) ?_ ?_); rotate_left 1; (first  | rfl)) | ((with_reducible refine go_b (x := ?_) ?_ ?_); rotate_left 1; (first  | rfl)) | ((with_reducible refine go_l (x := ?_) (l := ?_) (c := ?_) ?_ ?_); rotate_left 3; (first  | rfl)) | ((with_reducible refine go_p (x := ?_) ?_ ?_); rotate_left 1; (first  | rfl)) | ((with_reducible refine go_halst rfl ?_ ?_ ?_); rfl; rfl) | (with_reducible refine go_halN rfl ?_) | ((with_reducible refine go_t ?_ ?_); (show _ = true; rfl)) | ((with_reducible refine go_f ?_ ?_); (show _ = false; rfl)) | (with_reducible refine go_ne ?_) | (with_reducible refine go_eq ?_) | (with_reducible refine go_fad ?_) | (with_reducible refine go_nil ?_))
  rfl
theorem uBits_rl (k : Nat) {p : Nat} {q : Option Addr} {bs : List Int} {s0 : Nat × Nat} (h0 : Okr bs s0) (w : Nat) (hw : w ≤ 40) : ∀ (m n i v : Nat), m < n → w = i + m → v < 2 ^ i → ∀ (H : Heap) (s : Nat × Nat), Rd H p q bs s →
    ∃ H', (∀ (R : Type) (KE : Int → Heap → Option R) (KR : Int → Int → Heap → Option R), R09_Reader_Bits_l2 k KE KR n (some ⟨p, 0, none⟩) (w : Int) ((s0.1 : Nat) : Int) ((s0.2 : Nat) : Int) (v : Int) (i : Int) H = if (back s0 (rbits bs m v s)).1.2 ≠ 0 then KR (back s0 (rbits bs m v s)).1.1 (back s0 (rbits bs m v s)).1.2 H' else KE (back s0 (rbits bs m v s)).1.1 H') ∧ Rd H' p q bs (back s0 (rbits bs m v s)).2 ∧ But p H H' ∧ ((back s0 (rbits bs m v s)).1.2 = 0 → ∃ u : Nat, (back s0 (rbits bs m v s)).1.1 = (u : Int) ∧ u < 2 ^ w) := by
  intro m
  induction m with
  | zero =>
    intro n i v hn hi hv H s h
    obtain ⟨n, rfl⟩ : ∃ n', n = n' + 1 := ⟨n - 1, by omega⟩
    have ed : decide ((i : Int) < (w : Int)) = false := decide_eq_false (by omega)
    refine ⟨H, fun R KE KR => ?_, h, .refl _ _, fun _ => ⟨v, rfl, by rw [hi]; exact hv⟩⟩
    unfold R09_Reader_Bits_l2 R09_Reader_Bits_l2_b
    exact go_f ed rfl
  | succ m ih =>
    intro n i v hn hi hv H s h
    obtain ⟨n, rfl⟩ : ∃ n', n = n' + 1 := ⟨n - 1, by omega⟩
    have ed : decide ((i : Int) < (w : Int)) = true := decide_eq_true (by omega)
    obtain ⟨H1, e1, R1, b1⟩ := uGet_eq k h
    have hb := rget_bit bs s
    by_cases he : (rget bs s).1.2 = 0
    · have d1 : ((rget bs s).1.2 != 0) = false := by rw [he]; rfl
      have er : rbits bs (m + 1) v s = rbits bs m (2 * v + bn (rget bs s).1.1) (rget bs s).2 := by rw [rbits, if_neg (fun hh => hh he)]
      have hbn := bn_le (rget bs s).1.1
      have hp : 2 ^ i ≤ 2 ^ 40 := Nat.pow_le_pow_right (by omega) (by omega)
      have hbe := bn_of hb.1
      obtain ⟨H2, e2, R2, b2, u2⟩ := ih n (i + 1) (2 * v + bn (rget bs s).1.1) (by omega) (by omega) (by rw [Nat.pow_succ]; omega) H1 _ R1
      have w0 : IntKind.wrap .i64 (IntKind.wrap .i64 (2 * (v : Int)) + (rget bs s).1.1) = ((2 * v + bn (rget bs s).1.1 : Nat) : Int) := by
        rw [w64 (n := 2 * (v : Int)) (by omega) (by omega), w64 (by omega) (by omega)]; omega
      have w1 : IntKind.wrap .i64 ((i : Int) + 1) = ((i + 1 : Nat) : Int) := by rw [w64 (by omega) (by omega)]; omega
      rw [er]
      refine ⟨H2, fun R KE KR => ?_, R2, b1.trans b2, u2⟩
      unfold R09_Reader_Bits_l2 R09_Reader_Bits_l2_b
      repeat (first | (with_reducible refine (e1 _ _).trans ?_) | ((with_reducible refine go_ip (x := ?_) ?_ ?_); rotate_left 1; (first  | rfl)) | ((with_reducible refine go_bp (x := ?_) ?_ ?_); rotate_left 1; (first  | rfl)) | ((with_reducible refine go_lp (x := ?_) (l := ?_) (c := ?_) ?_ ?_); rotate_left 3; (first  | rfl)) | ((with_reducible refine go_pp (x := ?_) ?_ ?_); rotate_left 1; (first  | rfl)) | ((with_reducible refine go_i (x := ?_) ?_ ?_); rotate_left 1; (first  | rfl)) | ((with_reducible refine go_b (x := ?_) ?_ ?_); rotate_left 1; (first  | rfl)) | ((with_reducible refine go_l (x := ?_) (l := ?_) (c := ?_) ?_ ?_); rotate_left 3; (first  | rfl)) | ((with_reducible refine go_p (x := ?_) ?_ ?_); rotate_left 1; (first  | rfl)) | ((with_reducible refine go_halst rfl ?_ ?_ ?_); rfl; rfl) | (with_reducible refine go_halN rfl ?_) | (with_reducible refine go_t ed ?_) | (with_reducible refine go_f ed ?_) | (with_reducible refine go_t d1 ?_) | (with_reducible refine go_f d1 ?_) | ((with_reducible refine go_t ?_ ?_); (show _ = true; rfl)) | ((with_reducible refine go_f ?_ ?_); (show _ = false; rfl)) | (with_reducible refine go_ne ?_) | (with_reducible refine go_eq ?_) | (with_reducible refine go_fad ?_) | (with_reducible refine go_nil ?_))
      try dsimp only
      rw [w1, w0]
      exact e2 _ _ _
    · have d1 : ((rget bs s).1.2 != 0) = true := by simpa using he
      have er : back s0 (rbits bs (m + 1) v s) = ((0, (rget bs s).1.2), s0) := by rw [rbits, if_pos he]; unfold back; rw [if_pos he]
      obtain ⟨H2, e2, R2, b2⟩ := uback_eq R1 h0
      rw [er]
      refine ⟨H2, fun R KE KR => ?_, R2, b1.trans b2, fun hh => (he hh).elim⟩
      rw [if_pos he]
      unfold R09_Reader_Bits_l2 R09_Reader_Bits_l2_b
      repeat (first | (with_reducible refine (e1 _ _).trans ?_) | (with_reducible refine (e2 _ _).trans ?_) | ((with_reducible refine go_ip (x := ?_) ?_ ?_); rotate_left 1; (first  | rfl)) | ((with_reducible refine go_bp (x := ?_) ?_ ?_); rotate_left 1; (first  | rfl)) | ((with_reducible refine go_lp (x := ?_) (l := ?_) (c := ?_) ?_ ?_); rotate_left 3; (first  | rfl)) | ((with_reducible refine go_pp (x := ?_) ?_ ?_); rotate_left 1; (first  | rfl)) | ((with_reducible refine go_i (x := ?_) ?_ ?_); rotate_left 1; (first  | rfl)) | ((with_reducible refine go_b (x := ?_) ?_ ?_); rotate_left 1; (first  | rfl)) | ((with_reducible refine go_l (x := ?_) (l := ?_) (c := ?_) ?_ ?_); rotate_left 3; (first  | rfl)) | ((with_reducible refine go_p (x := ?_) ?_ ?_); rotate_left 1; (first  | rfl)) | ((with_reducible refine go_halst rfl ?_ ?_ ?_); rfl; rfl) | (with_reducible refine go_halN rfl ?_) | (with_reducible refine go_t ed ?_) | (with_reducible refine go_f ed ?_) | (with_reducible refine go_t d1 ?_) | (with_reducible refine go_f d1 ?_) | ((with_reducible refine go_t ?_ ?_); (show _ = true; rfl)) | ((with_reducible refine go_f ?_ ?_); (show _ = false; rfl)) | (with_reducible refine go_ne ?_) | (with_reducible refine go_eq ?_) | (with_reducible refine go_fad ?_) | (with_reducible refine go_nil ?_))
      rfl
theorem uBitsR_eq {k : Nat} (hk : 100 < k) {H : Heap} {p : Nat} {q : Option Addr} {bs : List Int} {s : Nat × Nat} (h : Rd H p q bs s) (n : Int) :
    ∃ H', (∀ (R : Type) (K : Int → Int → Heap → Option R), R09_Reader_Bits k (some ⟨p, 0, none⟩) n H K = K (rB bs n s).1.1 (rB bs n s).1.2 H') ∧ Rd H' p q bs (rB bs n s).2 ∧ But p H H' ∧ ((rB bs n s).1.2 = 0 → ∃ u : Nat, (rB bs n s).1.1 = (u : Int) ∧ u < 2 ^ n.toNat) := by
  obtain ⟨c, hO⟩ := h.c
  have m : ∀ o, hcell H p o = (rcl q bs.length c s.1 s.2)[o]? := fun o => hO.sees.cell o
  by_cases c1 : n < 0
  · have d1 := decide_eq_true c1
    have er : rB bs n s = ((0, 1), s) := if_neg (by omega)
    rw [er]
    refine ⟨H, fun R K => ?_, h, .refl _ _, fun hh => by cases hh⟩
    unfold R09_Reader_Bits R09_Reader_Bits_b R09_Reader_Bits_p0 R09_Reader_Bits_p0_b R09_Reader_Bits_p1 R09_Reader_Bits_p1_b
    repeat (first | ((with_reducible refine go_ip (x := ?_) ?_ ?_); rotate_left 1; (first | ((with_reducible refine (m _).trans ?_); rfl) | rfl)) | ((with_reducible refine go_bp (x := ?_) ?_ ?_); rotate_left 1; (first | ((with_reducible refine (m _).trans ?_); rfl) | rfl)) | ((with_reducible refine go_lp (x := ?_) (l := ?_) (c := ?_) ?_ ?_); rotate_left 3; (first | ((with_reducible refine (m _).trans ?_); rfl) | rfl)) | ((with_reducible refine go_pp (x := ?_) ?_ ?_); rotate_left 1; (first | ((with_reducible refine (m _).trans ?_); rfl) | rfl)) | ((with_reducible refine go_i (x := ?_) ?_ ?_); rotate_left 1; (first | ((with_reducible refine (m _).trans ?_); rfl) | rfl)) | ((with_reducible refine go_b (x := ?_) ?_ ?_); rotate_left 1; (first | ((with_reducible refine (m _).trans ?_); rfl) | rfl)) | ((with_reducible refine go_l (x := ?_) (l := ?_) (c := ?_) ?_ ?_); rotate_left 3; (first | ((with_reducible refine (m _).trans ?_); rfl) | rfl)) | ((with_reducible refine go_p (x := ?_) ?_ ?_); rotate_left 1; (first | ((with_reducible refine (m _).trans ?_); rfl) | rfl)) | ((with_reducible refine go_halst rfl ?_ ?_ ?_); rfl; rfl) | (with_reducible refine go_halN rfl ?_) | (with_reducible refine go_t d1 ?_) | (with_reducible refine go_f d1 ?_) | ((with_reducible refine go_t ?_ ?_); (show _ = true; rfl)) | ((with_reducible refine go_f ?_ ?_); (show _ = false; rfl)) | (with_reducible refine go_ne ?_) | (with_reducible refine go_eq ?_) | (with_reducible refine go_fad ?_) | (with_reducible refine go_nil ?_))
    rfl
  have d1 := decide_eq_false c1
  by_cases c2 : n > 32
  · have d2 := decide_eq_true c2
    have er : rB bs n s = ((0, 1), s) := if_neg (by omega)
    rw [er]
    refine ⟨H, fun R K => ?_, h, .refl _ _, fun hh => by cases hh⟩
    unfold R09_Reader_Bits R09_Reader_Bits_b R09_Reader_Bits_p0 R09_Reader_Bits_p0_b R09_Reader_Bits_p1 R09_Reader_Bits_p1_b
    repeat (first | ((with_reducible refine go_ip (x := ?_) ?_ ?_); rotate_left 1; (first | ((with_reducible refine (m _).trans ?_); rfl) | rfl)) | ((with_reducible refine go_bp (x := ?_) ?_ ?_); rotate_left 1; (first | ((with_reducible refine (m _).trans ?_); rfl) | rfl)) | ((with_reducible refine go_lp (x := ?_) (l := ?_) (c := ?_) ?_ ?_); rotate_left 3; (first | ((with_reducible refine (m _).trans ?_); rfl) | rfl)) | ((with_reducible refine go_pp (x := ?_) ?_ ?_); rotate_left 1; (first | ((with_reducible refine (m _).trans ?_); rfl) | rfl)) | ((with_reducible refine go_i (x := ?_) ?_ ?_); rotate_left 1; (first | ((with_reducible refine (m _).trans ?_); rfl) | rfl)) | ((with_reducible refine go_b (x := ?_) ?_ ?_); rotate_left 1; (first | ((with_reducible refine (m _).trans ?_); rfl) | rfl)) | ((with_reducible refine go_l (x := ?_) (l := ?_) (c := ?_) ?_ ?_); rotate_left 3; (first | ((with_reducible refine (m _).trans ?_); rfl) | rfl)) | ((with_reducible refine go_p (x := ?_) ?_ ?_); rotate_left 1; (first | ((with_reducible refine (m _).trans ?_); rfl) | rfl)) | ((with_reducible refine go_halst rfl ?_ ?_ ?_); rfl; rfl) | (with_reducible refine go_halN rfl ?_) | (with_reducible refine go_t d1 ?_) | (with_reducible refine go_f d1 ?_) | (with_reducible refine go_t d2 ?_) | (with_reducible refine go_f d2 ?_) | ((with_reducible refine go_t ?_ ?_); (show _ = true; rfl)) | ((with_reducible refine go_f ?_ ?_); (show _ = false; rfl)) | (with_reducible refine go_ne ?_) | (with_reducible refine go_eq ?_) | (with_reducible refine go_fad ?_) | (with_reducible refine go_nil ?_))
    rfl
  have d2 := decide_eq_false c2
  obtain ⟨w, rfl⟩ : ∃ w : Nat, n = w := ⟨n.toNat, by omega⟩
  have er : rB bs (w : Int) s = back s (rbits bs w 0 s) := by unfold rB; rw [if_pos ⟨by omega, by omega⟩, Int.toNat_natCast]
  obtain ⟨H3, e3, R3, b3, u3⟩ := uBits_rl k h.ok w (by omega) w k 0 0 (by omega) (by omega) (by simp) H s h
  simp only [Int.natCast_zero] at e3
  rw [er, Int.toNat_natCast]
  refine ⟨H3, fun R K => ?_, R3, b3, u3⟩
  unfold R09_Reader_Bits R09_Reader_Bits_b R09_Reader_Bits_p0 R09_Reader_Bits_p0_b R09_Reader_Bits_p1 R09_Reader_Bits_p1_b
  repeat (first | ((with_reducible refine go_ip (x := ?_) ?_ ?_); rotate_left 1; (first | ((with_reducible refine (m _).trans ?_); rfl) | rfl)) | ((with_reducible refine go_bp (x := ?_) ?_ ?_); rotate_left 1; (first | ((with_reducible refine (m _).trans ?_); rfl) | rfl)) | ((with_reducible refine go_lp (x := ?_) (l := ?_) (c := ?_) ?_ ?_); rotate_left 3; (first | ((with_reducible refine (m _).trans ?_); rfl) | rfl)) | ((with_reducible refine go_pp (x := ?_) ?_ ?_); rotate_left 1; (first | ((with_reducible refine (m _).trans ?_); rfl) | rfl)) | ((with_reducible refine go_i (x := ?_) ?_ ?_); rotate_left 1; (first | ((with_reducible refine (m _).trans ?_); rfl) | rfl)) | ((with_reducible refine go_b (x := ?_) ?_ ?_); rotate_left 1; (first | ((with_reducible refine (m _).trans ?_); rfl) | rfl)) | ((with_reducible refine go_l (x := ?_) (l := ?_) (c := ?_) ?_ ?_); rotate_left 3; (first | ((with_reducible refine (m _).trans ?_); rfl) | rfl)) | ((with_reducible refine go_p (x := ?_) ?_ ?_); rotate_left 1; (first | ((with_reducible refine (m _).trans ?_); rfl) | rfl)) | ((with_reducible refine go_halst rfl ?_ ?_ ?_); rfl; rfl) | (with_reducible refine go_halN rfl ?_) | (with_reducible refine go_t d1 ?_) | (with_reducible refine go_f d1 ?_) | (with_reducible refine go_t d2 ?_) | (with_reducible refine go_f d2 ?_) | ((with_reducible refine go_t ?_ ?_); (show _ = true; rfl)) | ((with_reducible refine go_f ?_ ?_); (show _ = false; rfl)) | (with_reducible refine go_ne ?_) | (with_reducible refine go_eq ?_) | (with_reducible refine go_fad ?_) | (with_reducible refine go_nil ?_))
  refine (e3 _ _ _).trans ?_
  split
  · rfl
  · rename_i hh
    have : (back s (rbits bs w 0 s)).1.2 = 0 := Decidable.byContradiction fun x => hh x
    rw [this]
theorem uCntG_l (k : Nat) {p : Nat} {q : Option Addr} {bs : List Int} {s0 : Nat × Nat} (h0 : Okr bs s0) : ∀ (m n i : Nat), m < n → 32 = i + (m + 1) → ∀ (H : Heap) (s : Nat × Nat), Rd H p q bs s →
    ∃ H', (∀ (R : Type) (KE : Option Addr → Int → Int → Int → Heap → Option R) (KR : Int → Int → Heap → Option R), R09_Reader_Gamma_l1 k KE KR n (some ⟨p, 0, none⟩) ((s0.1 : Nat) : Int) ((s0.2 : Nat) : Int) (i : Int) H = if (rcnt bs 0 (m + 1) i s).1.2 ≠ 0 then KR 0 (rcnt bs 0 (m + 1) i s).1.2 H' else KE (some ⟨p, 0, none⟩) ((s0.1 : Nat) : Int) ((s0.2 : Nat) : Int) (rcnt bs 0 (m + 1) i s).1.1 H') ∧ Rd H' p q bs (back s0 (rcnt bs 0 (m + 1) i s)).2 ∧ But p H H' ∧ ((rcnt bs 0 (m + 1) i s).1.2 = 0 → ∃ u : Nat, (rcnt bs 0 (m + 1) i s).1.1 = (u : Int) ∧ u < 32) := by
  intro m
  induction m with
  | zero =>
    intro n i hn hi H s h
    obtain ⟨n, rfl⟩ : ∃ n', n = n' + 1 := ⟨n - 1, by omega⟩
    obtain ⟨H1, e1, R1, b1⟩ := uGet_eq k h
    have hb := (rget_bit bs s).1
    by_cases he : (rget bs s).1.2 = 0
    · have d1 : ((rget bs s).1.2 == 0) = true := by rw [he]; rfl
      have d1' : ((rget bs s).1.2 != 0) = false := by rw [he]; rfl
      by_cases hx : (rget bs s).1.1 = 0
      · have er : rcnt bs 0 (0 + 1) i s = ((0, 8), (rget bs s).2) := by rw [rcnt, if_neg (fun hh => hh he), if_neg (fun hh => hh hx), if_pos rfl]
        have d2 : ((rget bs s).1.1 == 0) = true := by rw [hx]; rfl
        have d3 : ((i : Int) == 31) = true := by rw [beq_iff_eq]; omega
        obtain ⟨H2, e2, R2, b2⟩ := uback_eq R1 h0
        rw [er]
        refine ⟨H2, fun R KE KR => ?_, R2, b1.trans b2, fun hh => by cases hh⟩
        unfold R09_Reader_Gamma_l1 R09_Reader_Gamma_l1_b R09_Reader_Gamma_p2 R09_Reader_Gamma_p2_b
        repeat (first | (with_reducible refine (e1 _ _).trans ?_) | (with_reducible refine (e2 _ _).trans ?_) | ((with_reducible refine go_ip (x := ?_) ?_ ?_); rotate_left 1; (first  | rfl)) | ((with_reducible refine go_bp (x := ?_) ?_ ?_); rotate_left 1; (first  | rfl)) | ((with_reducible refine go_lp (x := ?_) (l := ?_) (c := ?_) ?_ ?_); rotate_left 3; (first  | rfl)) | ((with_reducible refine go_pp (x := ?_) ?_ ?_); rotate_left 1; (first  | rfl)) | ((with_reducible refine go_i (x := ?_) ?_ ?_); rotate_left 1; (first  | rfl)) | ((with_reducible refine go_b (x := ?_) ?_ ?_); rotate_left 1; (first  | rfl)) | ((with_reducible refine go_l (x := ?_) (l := ?_) (c := ?_) ?_ ?_); rotate_left 3; (first  | rfl)) | ((with_reducible refine go_p (x := ?_) ?_ ?_); rotate_left 1; (first  | rfl)) | ((with_reducible refine go_halst rfl ?_ ?_ ?_); rfl; rfl) | (with_reducible refine go_halN rfl ?_) | (with_reducible refine go_t d1 ?_) | (with_reducible refine go_f d1 ?_) | (with_reducible refine go_t d2 ?_) | (with_reducible refine go_f d2 ?_) | (with_reducible refine go_t d3 ?_) | (with_reducible refine go_f d3 ?_) | ((with_reducible refine go_t ?_ ?_); (show _ = true; rfl)) | ((with_reducible refine go_f ?_ ?_); (show _ = false; rfl)) | (with_reducible refine go_ne ?_) | (with_reducible refine go_eq ?_) | (with_reducible refine go_fad ?_) | (with_reducible refine go_nil ?_))
        rfl
      · have er : rcnt bs 0 (0 + 1) i s = (((i : Int), 0), (rget bs s).2) := by rw [rcnt, if_neg (fun hh => hh he), if_pos hx]
        have d2 : ((rget bs s).1.1 == 0) = false := by simpa using hx
        have d4 : ((rget bs s).1.1 == 1) = true := by rw [beq_iff_eq]; omega
        rw [er]
        refine ⟨H1, fun R KE KR => ?_, R1, b1, fun _ => ⟨i, rfl, by omega⟩⟩
        unfold R09_Reader_Gamma_l1 R09_Reader_Gamma_l1_b R09_Reader_Gamma_p2 R09_Reader_Gamma_p2_b
        repeat (first | (with_reducible refine (e1 _ _).trans ?_) | ((with_reducible refine go_ip (x := ?_) ?_ ?_); rotate_left 1; (first  | rfl)) | ((with_reducible refine go_bp (x := ?_) ?_ ?_); rotate_left 1; (first  | rfl)) | ((with_reducible refine go_lp (x := ?_) (l := ?_) (c := ?_) ?_ ?_); rotate_left 3; (first  | rfl)) | ((with_reducible refine go_pp (x := ?_) ?_ ?_); rotate_left 1; (first  | rfl)) | ((with_reducible refine go_i (x := ?_) ?_ ?_); rotate_left 1; (first  | rfl)) | ((with_reducible refine go_b (x := ?_) ?_ ?_); rotate_left 1; (first  | rfl)) | ((with_reducible refine go_l (x := ?_) (l := ?_) (c := ?_) ?_ ?_); rotate_left 3; (first  | rfl)) | ((with_reducible refine go_p (x := ?_) ?_ ?_); rotate_left 1; (first  | rfl)) | ((with_reducible refine go_halst rfl ?_ ?_ ?_); rfl; rfl) | (with_reducible refine go_halN rfl ?_) | (with_reducible refine go_t d1 ?_) | (with_reducible refine go_f d1 ?_) | (with_reducible refine go_t d2 ?_) | (with_reducible refine go_f d2 ?_) | (with_reducible refine go_t d1' ?_) | (with_reducible refine go_f d1' ?_) | (with_reducible refine go_t d4 ?_) | (with_reducible refine go_f d4 ?_) | ((with_reducible refine go_t ?_ ?_); (show _ = true; rfl)) | ((with_reducible refine go_f ?_ ?_); (show _ = false; rfl)) | (with_reducible refine go_ne ?_) | (with_reducible refine go_eq ?_) | (with_reducible refine go_fad ?_) | (with_reducible refine go_nil ?_))
        rfl
    · have d1 : ((rget bs s).1.2 == 0) = false := by simpa using he
      have d1' : ((rget bs s).1.2 != 0) = true := by simpa using he
      have er : rcnt bs 0 (0 + 1) i s = ((0, (rget bs s).1.2), (rget bs s).2) := by rw [rcnt, if_pos he]
      obtain ⟨H2, e2, R2, b2⟩ := uback_eq R1 h0
      rw [er]
      refine ⟨H2, fun R KE KR => ?_, by unfold back; rw [if_pos he]; exact R2, b1.trans b2, fun hh => (he hh).elim⟩
      rw [if_pos he]
      unfold R09_Reader_Gamma_l1 R09_Reader_Gamma_l1_b R09_Reader_Gamma_p2 R09_Reader_Gamma_p2_b
      repeat (first | (with_reducible refine (e1 _ _).trans ?_) | (with_reducible refine (e2 _ _).trans ?_) | ((with_reducible refine go_ip (x := ?_) ?_ ?_); rotate_left 1; (first  | rfl)) | ((with_reducible refine go_bp (x := ?_) ?_ ?_); rotate_left 1; (first  | rfl)) | ((with_reducible refine go_lp (x := ?_) (l := ?_) (c := ?_) ?_ ?_); rotate_left 3; (first  | rfl)) | ((with_reducible refine go_pp (x := ?_) ?_ ?_); rotate_left 1; (first  | rfl)) | ((with_reducible refine go_i (x := ?_) ?_ ?_); rotate_left 1; (first  | rfl)) | ((with_reducible refine go_b (x := ?_) ?_ ?_); rotate_left 1; (first  | rfl)) | ((with_reducible refine go_l (x := ?_) (l := ?_) (c := ?_) ?_ ?_); rotate_left 3; (first  | rfl)) | ((with_reducible refine go_p (x := ?_) ?_ ?_); rotate_left 1; (first  | rfl)) | ((with_reducible refine go_halst rfl ?_ ?_ ?_); rfl; rfl) | (with_reducible refine go_halN rfl ?_) | (with_reducible refine go_t d1 ?_) | (with_reducible refine go_f d1 ?_) | (with_reducible refine go_t d1' ?_) | (with_reducible refine go_f d1' ?_) | ((with_reducible refine go_t ?_ ?_); (show _ = true; rfl)) | ((with_reducible refine go_f ?_ ?_); (show _ = false; rfl)) | (with_reducible refine go_ne ?_) | (with_reducible refine go_eq ?_) | (with_reducible refine go_fad ?_) | (with_reducible refine go_nil ?_))
      rfl
  | succ m ih =>
    intro n i hn hi H s h
    obtain ⟨n, rfl⟩ : ∃ n', n = n' + 1 := ⟨n - 1, by omega⟩
    obtain ⟨H1, e1, R1, b1⟩ := uGet_eq k h
    have hb := (rget_bit bs s).1
    by_cases he : (rget bs s).1.2 = 0
    · have d1 : ((rget bs s).1.2 == 0) = true := by rw [he]; rfl
      have d1' : ((rget bs s).1.2 != 0) = false := by rw [he]; rfl
      by_cases hx : (rget bs s).1.1 = 0
      · have er : rcnt bs 0 (m + 1 + 1) i s = rcnt bs 0 (m + 1) (i + 1) (rget bs s).2 := by rw [rcnt, if_neg (fun hh => hh he), if_neg (fun hh => hh hx), if_neg (by omega)]
        have d2 : ((rget bs s).1.1 == 0) = true := by rw [hx]; rfl
        have d3 : ((i : Int) == 31) = false := by rw [beq_eq_false_iff_ne]; omega
        have d4 : ((rget bs s).1.1 == 1) = false := by rw [hx]; rfl
        have w1 : IntKind.wrap .i64 ((i : Int) + 1) = ((i + 1 : Nat) : Int) := by rw [w64 (by omega) (by omega)]; omega
        obtain ⟨H2, e2, R2, b2, u2⟩ := ih n (i + 1) (by omega) (by omega) H1 _ R1
        rw [er]
        refine ⟨H2, fun R KE KR => ?_, R2, b1.trans b2, u2⟩
        unfold R09_Reader_Gamma_l1 R09_Reader_Gamma_l1_b R09_Reader_Gamma_p2 R09_Reader_Gamma_p2_b
        repeat (first | (with_reducible refine (e1 _ _).trans ?_) | ((with_reducible refine go_ip (x := ?_) ?_ ?_); rotate_left 1; (first  | rfl)) | ((with_reducible refine go_bp (x := ?_) ?_ ?_); rotate_left 1; (first  | rfl)) | ((with_reducible refine go_lp (x := ?_) (l := ?_) (c := ?_) ?_ ?_); rotate_left 3; (first  | rfl)) | ((with_reducible refine go_pp (x := ?_) ?_ ?_); rotate_left 1; (first  | rfl)) | ((with_reducible refine go_i (x := ?_) ?_ ?_); rotate_left 1; (first  | rfl)) | ((with_reducible refine go_b (x := ?_) ?_ ?_); rotate_left 1; (first  | rfl)) | ((with_reducible refine go_l (x := ?_) (l := ?_) (c := ?_) ?_ ?_); rotate_left 3; (first  | rfl)) | ((with_reducible refine go_p (x := ?_) ?_ ?_); rotate_left 1; (first  | rfl)) | ((with_reducible refine go_halst rfl ?_ ?_ ?_); rfl; rfl) | (with_reducible refine go_halN rfl ?_) | (with_reducible refine go_t d1 ?_) | (with_reducible refine go_f d1 ?_) | (with_reducible refine go_t d2 ?_) | (with_reducible refine go_f d2 ?_) | (with_reducible refine go_t d3 ?_) | (with_reducible refine go_f d3 ?_) | (with_reducible refine go_t d1' ?_) | (with_reducible refine go_f d1' ?_) | (with_reducible refine go_t d4 ?_) | (with_reducible refine go_f d4 ?_) | ((with_reducible refine go_t ?_ ?_); (show _ = true; rfl)) | ((with_reducible refine go_f ?_ ?_); (show _ = false; rfl)) | (with_reducible refine go_ne ?_) | (with_reducible refine go_eq ?_) | (with_reducible refine go_fad ?_) | (with_reducible refine go_nil ?_))
        try dsimp only
        rw [w1]
        exact e2 _ _ _
      · have er : rcnt bs 0 (m + 1 + 1) i s = (((i : Int), 0), (rget bs s).2) := by rw [rcnt, if_neg (fun hh => hh he), if_pos hx]
        have d2 : ((rget bs s).1.1 == 0) = false := by simpa using hx
        have d4 : ((rget bs s).1.1 == 1) = true := by rw [beq_iff_eq]; omega
        rw [er]
        refine ⟨H1, fun R KE KR => ?_, R1, b1, fun _ => ⟨i, rfl, by omega⟩⟩
        unfold R09_Reader_Gamma_l1 R09_Reader_Gamma_l1_b R09_Reader_Gamma_p2 R09_Reader_Gamma_p2_b
        repeat (first | (with_reducible refine (e1 _ _).trans ?_) | ((with_reducible refine go_ip (x := ?_) ?_ ?_); rotate_left 1; (first  | rfl)) | ((with_reducible refine go_bp (x := ?_) ?_ ?_); rotate_left 1; (first  | rfl)) | ((with_reducible refine go_lp (x := ?_) (l := ?_) (c := ?_) ?_ ?_); rotate_left 3; (first  | rfl)) | ((with_reducible refine go_pp (x := ?_) ?_ ?_); rotate_left 1; (first  | rfl)) | ((with_reducible refine go_i (x := ?_) ?_ ?_); rotate_left 1; (first  | rfl)) | ((with_reducible refine go_b (x := ?_) ?_ ?_); rotate_left 1; (first  | rfl)) | ((with_reducible refine go_l (x := ?_) (l := ?_) (c := ?_) ?_ ?_); rotate_left 3; (first  | rfl)) | ((with_reducible refine go_p (x := ?_) ?_ ?_); rotate_left 1; (first  | rfl)) | ((with_reducible refine go_halst rfl ?_ ?_ ?_); rfl; rfl) | (with_reducible refine go_halN rfl ?_) | (with_reducible refine go_t d1 ?_) | (with_reducible refine go_f d1 ?_) | (with_reducible refine go_t d2 ?_) | (with_reducible refine go_f d2 ?_) | (with_reducible refine go_t d1' ?_) | (with_reducible refine go_f d1' ?_) | (with_reducible refine go_t d4 ?_) | (with_reducible refine go_f d4 ?_) | ((with_reducible refine go_t ?_ ?_); (show _ = true; rfl)) | ((with_reducible refine go_f ?_ ?_); (show _ = false; rfl)) | (with_reducible refine go_ne ?_) | (with_reducible refine go_eq ?_) | (with_reducible refine go_fad ?_) | (with_reducible refine go_nil ?_))
        rfl
    · have d1 : ((rget bs s).1.2 == 0) = false := by simpa using he
      have d1' : ((rget bs s).1.2 != 0) = true := by simpa using he
      have er : rcnt bs 0 (m + 1 + 1) i s = ((0, (rget bs s).1.2), (rget bs s).2) := by rw [rcnt, if_pos he]
      obtain ⟨H2, e2, R2, b2⟩ := uback_eq R1 h0
      rw [er]
      refine ⟨H2, fun R KE KR => ?_, by unfold back; rw [if_pos he]; exact R2, b1.trans b2, fun hh => (he hh).elim⟩
      rw [if_pos he]
      unfold R09_Reader_Gamma_l1 R09_Reader_Gamma_l1_b R09_Reader_Gamma_p2 R09_Reader_Gamma_p2_b
      repeat (first | (with_reducible refine (e1 _ _).trans ?_) | (with_reducible refine (e2 _ _).trans ?_) | ((with_reducible refine go_ip (x := ?_) ?_ ?_); rotate_left 1; (first  | rfl)) | ((with_reducible refine go_bp (x := ?_) ?_ ?_); rotate_left 1; (first  | rfl)) | ((with_reducible refine go_lp (x := ?_) (l := ?_) (c := ?_) ?_ ?_); rotate_left 3; (first  | rfl)) | ((with_reducible refine go_pp (x := ?_) ?_ ?_); rotate_left 1; (first  | rfl)) | ((with_reducible refine go_i (x := ?_) ?_ ?_); rotate_left 1; (first  | rfl)) | ((with_reducible refine go_b (x := ?_) ?_ ?_); rotate_left 1; (first  | rfl)) | ((with_reducible refine go_l (x := ?_) (l := ?_) (c := ?_) ?_ ?_); rotate_left 3; (first  | rfl)) | ((with_reducible refine go_p (x := ?_) ?_ ?_); rotate_left 1; (first  | rfl)) | ((with_reducible refine go_halst rfl ?_ ?_ ?_); rfl; rfl) | (with_reducible refine go_halN rfl ?_) | (with_reducible refine go_t d1 ?_) | (with_reducible refine go_f d1 ?_) | (with_reducible refine go_t d1' ?_) | (with_reducible refine go_f d1' ?_) | ((with_reducible refine go_t ?_ ?_); (show _ = true; rfl)) | ((with_reducible refine go_f ?_ ?_); (show _ = false; rfl)) | (with_reducible refine go_ne ?_) | (with_reducible refine go_eq ?_) | (with_reducible refine go_fad ?_) | (with_reducible refine go_nil ?_))
      rfl
theorem uGammaR_eq {k : Nat} (hk : 1000 < k) {H : Heap} {p : Nat} {q : Option Addr} {bs : List Int} {s : Nat × Nat} (h : Rd H p q bs s) :
    ∃ H', (∀ (R : Type) (K : Int → Int → Heap → Option R), R09_Reader_Gamma k (some ⟨p, 0, none⟩) H K = K (rG bs s).1.1 (rG bs s).1.2 H') ∧ Rd H' p q bs (rG bs s).2 ∧ But p H H' := by
  obtain ⟨c, hO⟩ := h.c
  have m : ∀ o, hcell H p o = (rcl q bs.length c s.1 s.2)[o]? := fun o => hO.sees.cell o
  obtain ⟨H3, e3, R3, b3, u3⟩ := uCntG_l k h.ok 31 k 0 (by omega) (by omega) H s h
  have e3' : ∀ (R : Type) (KE : Option Addr → Int → Int → Int → Heap → Option R) (KR : Int → Int → Heap → Option R), R09_Reader_Gamma_l1 k KE KR k (some ⟨p, 0, none⟩) ((s.1 : Nat) : Int) ((s.2 : Nat) : Int) 0 H = if (rcnt bs 0 32 0 s).1.2 ≠ 0 then KR 0 (rcnt bs 0 32 0 s).1.2 H3 else KE (some ⟨p, 0, none⟩) ((s.1 : Nat) : Int) ((s.2 : Nat) : Int) (rcnt bs 0 32 0 s).1.1 H3 := e3
  by_cases hc : (rcnt bs 0 32 0 s).1.2 = 0
  · obtain ⟨u, hu, hu2⟩ := u3 hc
    have hu' : (rcnt bs 0 32 0 s).1.1.toNat = u := by rw [hu, Int.toNat_natCast]
    have hbk : back s (rcnt bs 0 (31 + 1) 0 s) = rcnt bs 0 32 0 s := by unfold back; rw [if_neg (fun hh => hh hc)]
    rw [hbk] at R3
    obtain ⟨H6, e6, R6, b6, u6⟩ := uBitsR_eq (k := k) (by omega) R3 (u : Int)
    have erB : rB bs (u : Int) (rcnt bs 0 32 0 s).2 = back (rcnt bs 0 32 0 s).2 (rbits bs u 0 (rcnt bs 0 32 0 s).2) := by unfold rB; rw [if_pos ⟨by omega, by omega⟩, Int.toNat_natCast]
    have hpu := p32 (n := u) (by omega)
    have s0 : ∀ (R : Type) (K : Int → Option R), hbin .shl .i64 1 (IntKind.wrap .u64 (u : Int)) K = K ((2 ^ u : Nat) : Int) := fun R K => by
      have := shl64 (a := 1) (n := u) (by omega) (by omega) K
      rwa [Nat.one_mul] at this
    by_cases hd : (rbits bs u 0 (rcnt bs 0 32 0 s).2).1.2 = 0
    · have erB' : rB bs (u : Int) (rcnt bs 0 32 0 s).2 = rbits bs u 0 (rcnt bs 0 32 0 s).2 := by rw [erB]; unfold back; rw [if_neg (fun hh => hh hd)]
      rw [erB'] at e6 R6 u6
      obtain ⟨v, hv, hv2⟩ := u6 hd
      rw [Int.toNat_natCast] at hv2
      have d2 : ((rbits bs u 0 (rcnt bs 0 32 0 s).2).1.2 != 0) = false := by rw [hd]; rfl
      have w1 : IntKind.wrap .i64 (((2 ^ u : Nat) : Int) + (rbits bs u 0 (rcnt bs 0 32 0 s).2).1.1) = ((2 ^ u : Nat) : Int) + (rbits bs u 0 (rcnt bs 0 32 0 s).2).1.1 := by rw [hv, w64 (by omega) (by omega)]
      have er : rG bs s = ((((2 ^ u : Nat) : Int) + (rbits bs u 0 (rcnt bs 0 32 0 s).2).1.1, 0), (rbits bs u 0 (rcnt bs 0 32 0 s).2).2) := by
        have g1 : rG1 bs s = ((((2 ^ u : Nat) : Int) + (rbits bs u 0 (rcnt bs 0 32 0 s).2).1.1, 0), (rbits bs u 0 (rcnt bs 0 32 0 s).2).2) := by
          unfold rG1
          rw [if_neg (fun hh => hh hc), hu', if_neg (fun hh => hh hd)]
        unfold rG back
        rw [g1, if_neg (fun hh => hh rfl)]
      rw [er]
      refine ⟨H6, fun R K => ?_, R6, b3.trans b6⟩
      unfold R09_Reader_Gamma R09_Reader_Gamma_b R09_Reader_Gamma_p0 R09_Reader_Gamma_p0_b
      repeat (first | ((with_reducible refine go_ip (x := ?_) ?_ ?_); rotate_left 1; (first | ((with_reducible refine (m _).trans ?_); rfl) | rfl)) | ((with_reducible refine go_bp (x := ?_) ?_ ?_); rotate_left 1; (first | ((with_reducible refine (m _).trans ?_); rfl) | rfl)) | ((with_reducible refine go_lp (x := ?_) (l := ?_) (c := ?_) ?_ ?_); rotate_left 3; (first | ((with_reducible refine (m _).trans ?_); rfl) | rfl)) | ((with_reducible refine go_pp (x := ?_) ?_ ?_); rotate_left 1; (first | ((with_reducible refine (m _).trans ?_); rfl) | rfl)) | ((with_reducible refine go_i (x := ?_) ?_ ?_); rotate_left 1; (first | ((with_reducible refine (m _).trans ?_); rfl) | rfl)) | ((with_reducible refine go_b (x := ?_) ?_ ?_); rotate_left 1; (first | ((with_reducible refine (m _).trans ?_); rfl) | rfl)) | ((with_reducible refine go_l (x := ?_) (l := ?_) (c := ?_) ?_ ?_); rotate_left 3; (first | ((with_reducible refine (m _).trans ?_); rfl) | rfl)) | ((with_reducible refine go_p (x := ?_) ?_ ?_); rotate_left 1; (first | ((with_reducible refine (m _).trans ?_); rfl) | rfl)) | ((with_reducible refine go_halst rfl ?_ ?_ ?_); rfl; rfl) | (with_reducible refine go_halN rfl ?_) | ((with_reducible refine go_t ?_ ?_); (show _ = true; rfl)) | ((with_reducible refine go_f ?_ ?_); (show _ = false; rfl)) | (with_reducible refine go_ne ?_) | (with_reducible refine go_eq ?_) | (with_reducible refine go_fad ?_) | (with_reducible refine go_nil ?_))
      refine (e3' _ _ _).trans ?_
      rw [if_neg (fun hh => hh hc), hu]
      repeat (first | (with_reducible refine (e6 _ _).trans ?_) | (with_reducible refine (s0 _ _).trans ?_) | ((with_reducible refine go_ip (x := ?_) ?_ ?_); rotate_left 1; (first  | rfl)) | ((with_reducible refine go_bp (x := ?_) ?_ ?_); rotate_left 1; (first  | rfl)) | ((with_reducible refine go_lp (x := ?_) (l := ?_) (c := ?_) ?_ ?_); rotate_left 3; (first  | rfl)) | ((with_reducible refine go_pp (x := ?_) ?_ ?_); rotate_left 1; (first  | rfl)) | ((with_reducible refine go_i (x := ?_) ?_ ?_); rotate_left 1; (first  | rfl)) | ((with_reducible refine go_b (x := ?_) ?_ ?_); rotate_left 1; (first  | rfl)) | ((with_reducible refine go_l (x := ?_) (l := ?_) (c := ?_) ?_ ?_); rotate_left 3; (first  | rfl)) | ((with_reducible refine go_p (x := ?_) ?_ ?_); rotate_left 1; (first  | rfl)) | ((with_reducible refine go_halst rfl ?_ ?_ ?_); rfl; rfl) | (with_reducible refine go_halN rfl ?_) | (with_reducible refine go_t d2 ?_) | (with_reducible refine go_f d2 ?_) | ((with_reducible refine go_t ?_ ?_); (show _ = true; rfl)) | ((with_reducible refine go_f ?_ ?_); (show _ = false; rfl)) | (with_reducible refine go_ne ?_) | (with_reducible refine go_eq ?_) | (with_reducible refine go_fad ?_) | (with_reducible refine go_nil ?_))
      rw [w1]
    · have erB' : rB bs (u : Int) (rcnt bs 0 32 0 s).2 = ((0, (rbits bs u 0 (rcnt bs 0 32 0 s).2).1.2), (rcnt bs 0 32 0 s).2) := by rw [erB]; unfold back; rw [if_pos hd]
      rw [erB'] at e6 R6 u6
      have d2 : ((rbits bs u 0 (rcnt bs 0 32 0 s).2).1.2 != 0) = true := by simpa using hd
      have er : rG bs s = ((0, (rbits bs u 0 (rcnt bs 0 32 0 s).2).1.2), s) := by
        have g1 : rG1 bs s = rbits bs u 0 (rcnt bs 0 32 0 s).2 := by
          unfold rG1
          rw [if_neg (fun hh => hh hc), hu', if_pos hd]
        unfold rG back
        rw [g1, if_pos hd]
      obtain ⟨H7, e7, R7, b7⟩ := uback_eq R6 h.ok
      rw [er]
      refine ⟨H7, fun R K => ?_, R7, (b3.trans b6).trans b7⟩
      unfold R09_Reader_Gamma R09_Reader_Gamma_b R09_Reader_Gamma_p0 R09_Reader_Gamma_p0_b
      repeat (first | ((with_reducible refine go_ip (x := ?_) ?_ ?_); rotate_left 1; (first | ((with_reducible refine (m _).trans ?_); rfl) | rfl)) | ((with_reducible refine go_bp (x := ?_) ?_ ?_); rotate_left 1; (first | ((with_reducible refine (m _).trans ?_); rfl) | rfl)) | ((with_reducible refine go_lp (x := ?_) (l := ?_) (c := ?_) ?_ ?_); rotate_left 3; (first | ((with_reducible refine (m _).trans ?_); rfl) | rfl)) | ((with_reducible refine go_pp (x := ?_) ?_ ?_); rotate_left 1; (first | ((with_reducible refine (m _).trans ?_); rfl) | rfl)) | ((with_reducible refine go_i (x := ?_) ?_ ?_); rotate_left 1; (first | ((with_reducible refine (m _).trans ?_); rfl) | rfl)) | ((with_reducible refine go_b (x := ?_) ?_ ?_); rotate_left 1; (first | ((with_reducible refine (m _).trans ?_); rfl) | rfl)) | ((with_reducible refine go_l (x := ?_) (l := ?_) (c := ?_) ?_ ?_); rotate_left 3; (first | ((with_reducible refine (m _).trans ?_); rfl) | rfl)) | ((with_reducible refine go_p (x := ?_) ?_ ?_); rotate_left 1; (first | ((with_reducible refine (m _).trans ?_); rfl) | rfl)) | ((with_reducible refine go_halst rfl ?_ ?_ ?_); rfl; rfl) | (with_reducible refine go_halN rfl ?_) | ((with_reducible refine go_t ?_ ?_); (show _ = true; rfl)) | ((with_reducible refine go_f ?_ ?_); (show _ = false; rfl)) | (with_reducible refine go_ne ?_) | (with_reducible refine go_eq ?_) | (with_reducible refine go_fad ?_) | (with_reducible refine go_nil ?_))
      refine (e3' _ _ _).trans ?_
      rw [if_neg (fun hh => hh hc), hu]
      repeat (first | (with_reducible refine (e6 _ _).trans ?_) | (with_reducible refine (e7 _ _).trans ?_) | ((with_reducible refine go_ip (x := ?_) ?_ ?_); rotate_left 1; (first  | rfl)) | ((with_reducible refine go_bp (x := ?_) ?_ ?_); rotate_left 1; (first  | rfl)) | ((with_reducible refine go_lp (x := ?_) (l := ?_) (c := ?_) ?_ ?_); rotate_left 3; (first  | rfl)) | ((with_reducible refine go_pp (x := ?_) ?_ ?_); rotate_left 1; (first  | rfl)) | ((with_reducible refine go_i (x := ?_) ?_ ?_); rotate_left 1; (first  | rfl)) | ((with_reducible refine go_b (x := ?_) ?_ ?_); rotate_left 1; (first  | rfl)) | ((with_reducible refine go_l (x := ?_) (l := ?_) (c := ?_) ?_ ?_); rotate_left 3; (first  | rfl)) | ((with_reducible refine go_p (x := ?_) ?_ ?_); rotate_left 1; (first  | rfl)) | ((with_reducible refine go_halst rfl ?_ ?_ ?_); rfl; rfl) | (with_reducible refine go_halN rfl ?_) | (with_reducible refine go_t d2 ?_) | (with_reducible refine go_f d2 ?_) | ((with_reducible refine go_t ?_ ?_); (show _ = true; rfl)) | ((with_reducible refine go_f ?_ ?_); (show _ = false; rfl)) | (with_reducible refine go_ne ?_) | (with_reducible refine go_eq ?_) | (with_reducible refine go_fad ?_) | (with_reducible refine go_nil ?_))
      rfl
  · have er : rG bs s = ((0, (rcnt bs 0 32 0 s).1.2), s) := by
      have g1 : rG1 bs s = rcnt bs 0 32 0 s := by unfold rG1; rw [if_pos hc]
      unfold rG back
      rw [g1, if_pos hc]
    have hbk : back s (rcnt bs 0 (31 + 1) 0 s) = ((0, (rcnt bs 0 32 0 s).1.2), s) := by unfold back; rw [if_pos hc]
    rw [hbk] at R3
    rw [er]
    refine ⟨H3, fun R K => ?_, R3, b3⟩
    unfold R09_Reader_Gamma R09_Reader_Gamma_b R09_Reader_Gamma_p0 R09_Reader_Gamma_p0_b
    repeat (first | ((with_reducible refine go_ip (x := ?_) ?_ ?_); rotate_left 1; (first | ((with_reducible refine (m _).trans ?_); rfl) | rfl)) | ((with_reducible refine go_bp (x := ?_) ?_ ?_); rotate_left 1; (first | ((with_reducible refine (m _).trans ?_); rfl) | rfl)) | ((with_reducible refine go_lp (x := ?_) (l := ?_) (c := ?_) ?_ ?_); rotate_left 3; (first | ((with_reducible refine (m _).trans ?_); rfl) | rfl)) | ((with_reducible refine go_pp (x := ?_) ?_ ?_); rotate_left 1; (first | ((with_reducible refine (m _).trans ?_); rfl) | rfl)) | ((with_reducible refine go_i (x := ?_) ?_ ?_); rotate_left 1; (first | ((with_reducible refine (m _).trans ?_); rfl) | rfl)) | ((with_reducible refine go_b (x := ?_) ?_ ?_); rotate_left 1; (first | ((with_reducible refine (m _).trans ?_); rfl) | rfl)) | ((with_reducible refine go_l (x := ?_) (l := ?_) (c := ?_) ?_ ?_); rotate_left 3; (first | ((with_reducible refine (m _).trans ?_); rfl) | rfl)) | ((with_reducible refine go_p (x := ?_) ?_ ?_); rotate_left 1; (first | ((with_reducible refine (m _).trans ?_); rfl) | rfl)) | ((with_reducible refine go_halst rfl ?_ ?_ ?_); rfl; rfl) | (with_reducible refine go_halN rfl ?_) | ((with_reducible refine go_t ?_ ?_); (show _ = true; rfl)) | ((with_reducible refine go_f ?_ ?_); (show _ = false; rfl)) | (with_reducible refine go_ne ?_) | (with_reducible refine go_eq ?_) | (with_reducible refine go_fad ?_) | (with_reducible refine go_nil ?_))
    refine (e3' _ _ _).trans ?_
    rw [if_pos hc]
theorem uCntU_l (k : Nat) {p : Nat} {q : Option Addr} {bs : List Int} {s0 : Nat × Nat} (h0 : Okr bs s0) (w : Nat) (hw : w ≤ 65535) : ∀ (m n i : Nat), m < n → w = i + m → ∀ (H : Heap) (s : Nat × Nat), Rd H p q bs s →
    ∃ H', (∀ (R : Type) (KR : Int → Int → Heap → Option R), R09_Reader_Unary_l2 k KR n (some ⟨p, 0, none⟩) (w : Int) ((s0.1 : Nat) : Int) ((s0.2 : Nat) : Int) (i : Int) H = KR (back s0 (rcnt bs 1 (m + 1) i s)).1.1 (back s0 (rcnt bs 1 (m + 1) i s)).1.2 H') ∧ Rd H' p q bs (back s0 (rcnt bs 1 (m + 1) i s)).2 ∧ But p H H' := by
  intro m
  induction m with
  | zero =>
    intro n i hn hi H s h
    obtain ⟨n, rfl⟩ : ∃ n', n = n' + 1 := ⟨n - 1, by omega⟩
    obtain ⟨H1, e1, R1, b1⟩ := uGet_eq k h
    have hb := (rget_bit bs s).1
    by_cases he : (rget bs s).1.2 = 0
    · have d1 : ((rget bs s).1.2 == 0) = true := by rw [he]; rfl
      have d1' : ((rget bs s).1.2 != 0) = false := by rw [he]; rfl
      by_cases hx : (rget bs s).1.1 = 1
      · have er : rcnt bs 1 (0 + 1) i s = ((0, 8), (rget bs s).2) := by rw [rcnt, if_neg (fun hh => hh he), if_neg (fun hh => hh hx), if_pos rfl]
        have d2 : ((rget bs s).1.1 == 1) = true := by rw [hx]; rfl
        have d3 : ((i : Int) == (w : Int)) = true := by rw [beq_iff_eq]; omega
        obtain ⟨H2, e2, R2, b2⟩ := uback_eq R1 h0
        rw [er]
        refine ⟨H2, fun R KR => ?_, R2, b1.trans b2⟩
        unfold R09_Reader_Unary_l2 R09_Reader_Unary_l2_b R09_Reader_Unary_p3 R09_Reader_Unary_p3_b
        repeat (first | (with_reducible refine (e1 _ _).trans ?_) | (with_reducible refine (e2 _ _).trans ?_) | ((with_reducible refine go_ip (x := ?_) ?_ ?_); rotate_left 1; (first  | rfl)) | ((with_reducible refine go_bp (x := ?_) ?_ ?_); rotate_left 1; (first  | rfl)) | ((with_reducible refine go_lp (x := ?_) (l := ?_) (c := ?_) ?_ ?_); rotate_left 3; (first  | rfl)) | ((with_reducible refine go_pp (x := ?_) ?_ ?_); rotate_left 1; (first  | rfl)) | ((with_reducible refine go_i (x := ?_) ?_ ?_); rotate_left 1; (first  | rfl)) | ((with_reducible refine go_b (x := ?_) ?_ ?_); rotate_left 1; (first  | rfl)) | ((with_reducible refine go_l (x := ?_) (l := ?_) (c := ?_) ?_ ?_); rotate_left 3; (first  | rfl)) | ((with_reducible refine go_p (x := ?_) ?_ ?_); rotate_left 1; (first  | rfl)) | ((with_reducible refine go_halst rfl ?_ ?_ ?_); rfl; rfl) | (with_reducible refine go_halN rfl ?_) | (with_reducible refine go_t d1 ?_) | (with_reducible refine go_f d1 ?_) | (with_reducible refine go_t d2 ?_) | (with_reducible refine go_f d2 ?_) | (with_reducible refine go_t d3 ?_) | (with_reducible refine go_f d3 ?_) | ((with_reducible refine go_t ?_ ?_); (show _ = true; rfl)) | ((with_reducible refine go_f ?_ ?_); (show _ = false; rfl)) | (with_reducible refine go_ne ?_) | (with_reducible refine go_eq ?_) | (with_reducible refine go_fad ?_) | (with_reducible refine go_nil ?_))
        rfl
      · have er : rcnt bs 1 (0 + 1) i s = (((i : Int), 0), (rget bs s).2) := by rw [rcnt, if_neg (fun hh => hh he), if_pos hx]
        have d2 : ((rget bs s).1.1 == 1) = false := by simpa using hx
        have d4 : ((rget bs s).1.1 == 0) = true := by rw [beq_iff_eq]; omega
        rw [er]
        refine ⟨H1, fun R KR => ?_, R1, b1⟩
        unfold R09_Reader_Unary_l2 R09_Reader_Unary_l2_b R09_Reader_Unary_p3 R09_Reader_Unary_p3_b
        repeat (first | (with_reducible refine (e1 _ _).trans ?_) | ((with_reducible refine go_ip (x := ?_) ?_ ?_); rotate_left 1; (first  | rfl)) | ((with_reducible refine go_bp (x := ?_) ?_ ?_); rotate_left 1; (first  | rfl)) | ((with_reducible refine go_lp (x := ?_) (l := ?_) (c := ?_) ?_ ?_); rotate_left 3; (first  | rfl)) | ((with_reducible refine go_pp (x := ?_) ?_ ?_); rotate_left 1; (first  | rfl)) | ((with_reducible refine go_i (x := ?_) ?_ ?_); rotate_left 1; (first  | rfl)) | ((with_reducible refine go_b (x := ?_) ?_ ?_); rotate_left 1; (first  | rfl)) | ((with_reducible refine go_l (x := ?_) (l := ?_) (c := ?_) ?_ ?_); rotate_left 3; (first  | rfl)) | ((with_reducible refine go_p (x := ?_) ?_ ?_); rotate_left 1; (first  | rfl)) | ((with_reducible refine go_halst rfl ?_ ?_ ?_); rfl; rfl) | (with_reducible refine go_halN rfl ?_) | (with_reducible refine go_t d1 ?_) | (with_reducible refine go_f d1 ?_) | (with_reducible refine go_t d2 ?_) | (with_reducible refine go_f d2 ?_) | (with_reducible refine go_t d1' ?_) | (with_reducible refine go_f d1' ?_) | (with_reducible refine go_t d4 ?_) | (with_reducible refine go_f d4 ?_) | ((with_reducible refine go_t ?_ ?_); (show _ = true; rfl)) | ((with_reducible refine go_f ?_ ?_); (show _ = false; rfl)) | (with_reducible refine go_ne ?_) | (with_reducible refine go_eq ?_) | (with_reducible refine go_fad ?_) | (with_reducible refine go_nil ?_))
        rfl
    · have d1 : ((rget bs s).1.2 == 0) = false := by simpa using he
      have d1' : ((rget bs s).1.2 != 0) = true := by simpa using he
      have er : back s0 (rcnt bs 1 (0 + 1) i s) = ((0, (rget bs s).1.2), s0) := by rw [rcnt, if_pos he]; unfold back; rw [if_pos he]
      obtain ⟨H2, e2, R2, b2⟩ := uback_eq R1 h0
      rw [er]
      refine ⟨H2, fun R KR => ?_, R2, b1.trans b2⟩
      unfold R09_Reader_Unary_l2 R09_Reader_Unary_l2_b R09_Reader_Unary_p3 R09_Reader_Unary_p3_b
      repeat (first | (with_reducible refine (e1 _ _).trans ?_) | (with_reducible refine (e2 _ _).trans ?_) | ((with_reducible refine go_ip (x := ?_) ?_ ?_); rotate_left 1; (first  | rfl)) | ((with_reducible refine go_bp (x := ?_) ?_ ?_); rotate_left 1; (first  | rfl)) | ((with_reducible refine go_lp (x := ?_) (l := ?_) (c := ?_) ?_ ?_); rotate_left 3; (first  | rfl)) | ((with_reducible refine go_pp (x := ?_) ?_ ?_); rotate_left 1; (first  | rfl)) | ((with_reducible refine go_i (x := ?_) ?_ ?_); rotate_left 1; (first  | rfl)) | ((with_reducible refine go_b (x := ?_) ?_ ?_); rotate_left 1; (first  | rfl)) | ((with_reducible refine go_l (x := ?_) (l := ?_) (c := ?_) ?_ ?_); rotate_left 3; (first  | rfl)) | ((with_reducible refine go_p (x := ?_) ?_ ?_); rotate_left 1; (first  | rfl)) | ((with_reducible refine go_halst rfl ?_ ?_ ?_); rfl; rfl) | (with_reducible refine go_halN rfl ?_) | (with_reducible refine go_t d1 ?_) | (with_reducible refine go_f d1 ?_) | (with_reducible refine go_t d1' ?_) | (with_reducible refine go_f d1' ?_) | ((with_reducible refine go_t ?_ ?_); (show _ = true; rfl)) | ((with_reducible refine go_f ?_ ?_); (show _ = false; rfl)) | (with_reducible refine go_ne ?_) | (with_reducible refine go_eq ?_) | (with_reducible refine go_fad ?_) | (with_reducible refine go_nil ?_))
      rfl
  | succ m ih =>
    intro n i hn hi H s h
    obtain ⟨n, rfl⟩ : ∃ n', n = n' + 1 := ⟨n - 1, by omega⟩
    obtain ⟨H1, e1, R1, b1⟩ := uGet_eq k h
    have hb := (rget_bit bs s).1
    by_cases he : (rget bs s).1.2 = 0
    · have d1 : ((rget bs s).1.2 == 0) = true := by rw [he]; rfl
      have d1' : ((rget bs s).1.2 != 0) = false := by rw [he]; rfl
      by_cases hx : (rget bs s).1.1 = 1
      · have er : rcnt bs 1 (m + 1 + 1) i s = rcnt bs 1 (m + 1) (i + 1) (rget bs s).2 := by rw [rcnt, if_neg (fun hh => hh he), if_neg (fun hh => hh hx), if_neg (by omega)]
        have d2 : ((rget bs s).1.1 == 1) = true := by rw [hx]; rfl
        have d3 : ((i : Int) == (w : Int)) = false := by rw [beq_eq_false_iff_ne]; omega
        have d4 : ((rget bs s).1.1 == 0) = false := by rw [hx]; rfl
        have w1 : IntKind.wrap .i64 ((i : Int) + 1) = ((i + 1 : Nat) : Int) := by rw [w64 (by omega) (by omega)]; omega
        obtain ⟨H2, e2, R2, b2⟩ := ih n (i + 1) (by omega) (by omega) H1 _ R1
        rw [er]
        refine ⟨H2, fun R KR => ?_, R2, b1.trans b2⟩
        unfold R09_Reader_Unary_l2 R09_Reader_Unary_l2_b R09_Reader_Unary_p3 R09_Reader_Unary_p3_b
        repeat (first | (with_reducible refine (e1 _ _).trans ?_) | ((with_reducible refine go_ip (x := ?_) ?_ ?_); rotate_left 1; (first  | rfl)) | ((with_reducible refine go_bp (x := ?_) ?_ ?_); rotate_left 1; (first  | rfl)) | ((with_reducible refine go_lp (x := ?_) (l := ?_) (c := ?_) ?_ ?_); rotate_left 3; (first  | rfl)) | ((with_reducible refine go_pp (x := ?_) ?_ ?_); rotate_left 1; (first  | rfl)) | ((with_reducible refine go_i (x := ?_) ?_ ?_); rotate_left 1; (first  | rfl)) | ((with_reducible refine go_b (x := ?_) ?_ ?_); rotate_left 1; (first  | rfl)) | ((with_reducible refine go_l (x := ?_) (l := ?_) (c := ?_) ?_ ?_); rotate_left 3; (first  | rfl)) | ((with_reducible refine go_p (x := ?_) ?_ ?_); rotate_left 1; (first  | rfl)) | ((with_reducible refine go_halst rfl ?_ ?_ ?_); rfl; rfl) | (with_reducible refine go_halN rfl ?_) | (with_reducible refine go_t d1 ?_) | (with_reducible refine go_f d1 ?_) | (with_reducible refine go_t d2 ?_) | (with_reducible refine go_f d2 ?_) | (with_reducible refine go_t d3 ?_) | (with_reducible refine go_f d3 ?_) | (with_reducible refine go_t d1' ?_) | (with_reducible refine go_f d1' ?_) | (with_reducible refine go_t d4 ?_) | (with_reducible refine go_f d4 ?_) | ((with_reducible refine go_t ?_ ?_); (show _ = true; rfl)) | ((with_reducible refine go_f ?_ ?_); (show _ = false; rfl)) | (with_reducible refine go_ne ?_) | (with_reducible refine go_eq ?_) | (with_reducible refine go_fad ?_) | (with_reducible refine go_nil ?_))
        try dsimp only
        rw [w1]
        exact e2 _ _
      · have er : rcnt bs 1 (m + 1 + 1) i s = (((i : Int), 0), (rget bs s).2) := by rw [rcnt, if_neg (fun hh => hh he), if_pos hx]
        have d2 : ((rget bs s).1.1 == 1) = false := by simpa using hx
        have d4 : ((rget bs s).1.1 == 0) = true := by rw [beq_iff_eq]; omega
        rw [er]
        refine ⟨H1, fun R KR => ?_, R1, b1⟩
        unfold R09_Reader_Unary_l2 R09_Reader_Unary_l2_b R09_Reader_Unary_p3 R09_Reader_Unary_p3_b
        repeat (first | (with_reducible refine (e1 _ _).trans ?_) | ((with_reducible refine go_ip (x := ?_) ?_ ?_); rotate_left 1; (first  | rfl)) | ((with_reducible refine go_bp (x := ?_) ?_ ?_); rotate_left 1; (first  | rfl)) | ((with_reducible refine go_lp (x := ?_) (l := ?_) (c := ?_) ?_ ?_); rotate_left 3; (first  | rfl)) | ((with_reducible refine go_pp (x := ?_) ?_ ?_); rotate_left 1; (first  | rfl)) | ((with_reducible refine go_i (x := ?_) ?_ ?_); rotate_left 1; (first  | rfl)) | ((with_reducible refine go_b (x := ?_) ?_ ?_); rotate_left 1; (first  | rfl)) | ((with_reducible refine go_l (x := ?_) (l := ?_) (c := ?_) ?_ ?_); rotate_left 3; (first  | rfl)) | ((with_reducible refine go_p (x := ?_) ?_ ?_); rotate_left 1; (first  | rfl)) | ((with_reducible refine go_halst rfl ?_ ?_ ?_); rfl; rfl) | (with_reducible refine go_halN rfl ?_) | (with_reducible refine go_t d1 ?_) | (with_reducible refine go_f d1 ?_) | (with_reducible refine go_t d2 ?_) | (with_reducible refine go_f d2 ?_) | (with_reducible refine go_t d1' ?_) | (with_reducible refine go_f d1' ?_) | (with_reducible refine go_t d4 ?_) | (with_reducible refine go_f d4 ?_) | ((with_reducible refine go_t ?_ ?_); (show _ = true; rfl)) | ((with_reducible refine go_f ?_ ?_); (show _ = false; rfl)) | (with_reducible refine go_ne ?_) | (with_reducible refine go_eq ?_) | (with_reducible refine go_fad ?_) | (with_reducible refine go_nil ?_))
        rfl
    · have d1 : ((rget bs s).1.2 == 0) = false := by simpa using he
      have d1' : ((rget bs s).1.2 != 0) = true := by simpa using he
      have er : back s0 (rcnt bs 1 (m + 1 + 1) i s) = ((0, (rget bs s).1.2), s0) := by rw [rcnt, if_pos he]; unfold back; rw [if_pos he]
      obtain ⟨H2, e2, R2, b2⟩ := uback_eq R1 h0
      rw [er]
      refine ⟨H2, fun R KR => ?_, R2, b1.trans b2⟩
      unfold R09_Reader_Unary_l2 R09_Reader_Unary_l2_b R09_Reader_Unary_p3 R09_Reader_Unary_p3_b
      repeat (first | (with_reducible refine (e1 _ _).trans ?_) | (with_reducible refine (e2 _ _).trans ?_) | ((with_reducible refine go_ip (x := ?_) ?_ ?_); rotate_left 1; (first  | rfl)) | ((with_reducible refine go_bp (x := ?_) ?_ ?_); rotate_left 1; (first  | rfl)) | ((with_reducible refine go_lp (x := ?_) (l := ?_) (c := ?_) ?_ ?_); rotate_left 3; (first  | rfl)) | ((with_reducible refine go_pp (x := ?_) ?_ ?_); rotate_left 1; (first  | rfl)) | ((with_reducible refine go_i (x := ?_) ?_ ?_); rotate_left 1; (first  | rfl)) | ((with_reducible refine go_b (x := ?_) ?_ ?_); rotate_left 1; (first  | rfl)) | ((with_reducible refine go_l (x := ?_) (l := ?_) (c := ?_) ?_ ?_); rotate_left 3; (first  | rfl)) | ((with_reducible refine go_p (x := ?_) ?_ ?_); rotate_left 1; (first  | rfl)) | ((with_reducible refine go_halst rfl ?_ ?_ ?_); rfl; rfl) | (with_reducible refine go_halN rfl ?_) | (with_reducible refine go_t d1 ?_) | (with_reducible refine go_f d1 ?_) | (with_reducible refine go_t d1' ?_) | (with_reducible refine go_f d1' ?_) | ((with_reducible refine go_t ?_ ?_); (show _ = true; rfl)) | ((with_reducible refine go_f ?_ ?_); (show _ = false; rfl)) | (with_reducible refine go_ne ?_) | (with_reducible refine go_eq ?_) | (with_reducible refine go_fad ?_) | (with_reducible refine go_nil ?_))
      rfl
theorem uUnaryR_eq {k : Nat} (hk : 100000 < k) {H : Heap} {p : Nat} {q : Option Addr} {bs : List Int} {s : Nat × Nat} (h : Rd H p q bs s) (n : Int) :
    ∃ H', (∀ (R : Type) (K : Int → Int → Heap → Option R), R09_Reader_Unary k (some ⟨p, 0, none⟩) n H K = K (rU bs n s).1.1 (rU bs n s).1.2 H') ∧ Rd H' p q bs (rU bs n s).2 ∧ But p H H' := by
  obtain ⟨c, hO⟩ := h.c
  have m : ∀ o, hcell H p o = (rcl q bs.length c s.1 s.2)[o]? := fun o => hO.sees.cell o
  by_cases c1 : n < 0
  · have d1 := decide_eq_true c1
    have er : rU bs n s = ((0, 1), s) := if_neg (by omega)
    rw [er]
    refine ⟨H, fun R K => ?_, h, .refl _ _⟩
    unfold R09_Reader_Unary R09_Reader_Unary_b R09_Reader_Unary_p0 R09_Reader_Unary_p0_b R09_Reader_Unary_p1 R09_Reader_Unary_p1_b
    repeat (first | ((with_reducible refine go_ip (x := ?_) ?_ ?_); rotate_left 1; (first | ((with_reducible refine (m _).trans ?_); rfl) | rfl)) | ((with_reducible refine go_bp (x := ?_) ?_ ?_); rotate_left 1; (first | ((with_reducible refine (m _).trans ?_); rfl) | rfl)) | ((with_reducible refine go_lp (x := ?_) (l := ?_) (c := ?_) ?_ ?_); rotate_left 3; (first | ((with_reducible refine (m _).trans ?_); rfl) | rfl)) | ((with_reducible refine go_pp (x := ?_) ?_ ?_); rotate_left 1; (first | ((with_reducible refine (m _).trans ?_); rfl) | rfl)) | ((with_reducible refine go_i (x := ?_) ?_ ?_); rotate_left 1; (first | ((with_reducible refine (m _).trans ?_); rfl) | rfl)) | ((with_reducible refine go_b (x := ?_) ?_ ?_); rotate_left 1; (first | ((with_reducible refine (m _).trans ?_); rfl) | rfl)) | ((with_reducible refine go_l (x := ?_) (l := ?_) (c := ?_) ?_ ?_); rotate_left 3; (first | ((with_reducible refine (m _).trans ?_); rfl) | rfl)) | ((with_reducible refine go_p (x := ?_) ?_ ?_); rotate_left 1; (first | ((with_reducible refine (m _).trans ?_); rfl) | rfl)) | ((with_reducible refine go_halst rfl ?_ ?_ ?_); rfl; rfl) | (with_reducible refine go_halN rfl ?_) | (with_reducible refine go_t d1 ?_) | (with_reducible refine go_f d1 ?_) | ((with_reducible refine go_t ?_ ?_); (show _ = true; rfl)) | ((with_reducible refine go_f ?_ ?_); (show _ = false; rfl)) | (with_reducible refine go_ne ?_) | (with_reducible refine go_eq ?_) | (with_reducible refine go_fad ?_) | (with_reducible refine go_nil ?_))
    rfl
  have d1 := decide_eq_false c1
  by_cases c2 : n > 65535
  · have d2 := decide_eq_true c2
    have er : rU bs n s = ((0, 1), s) := if_neg (by omega)
    rw [er]
    refine ⟨H, fun R K => ?_, h, .refl _ _⟩
    unfold R09_Reader_Unary R09_Reader_Unary_b R09_Reader_Unary_p0 R09_Reader_Unary_p0_b R09_Reader_Unary_p1 R09_Reader_Unary_p1_b
    repeat (first | ((with_reducible refine go_ip (x := ?_) ?_ ?_); rotate_left 1; (first | ((with_reducible refine (m _).trans ?_); rfl) | rfl)) | ((with_reducible refine go_bp (x := ?_) ?_ ?_); rotate_left 1; (first | ((with_reducible refine (m _).trans ?_); rfl) | rfl)) | ((with_reducible refine go_lp (x := ?_) (l := ?_) (c := ?_) ?_ ?_); rotate_left 3; (first | ((with_reducible refine (m _).trans ?_); rfl) | rfl)) | ((with_reducible refine go_pp (x := ?_) ?_ ?_); rotate_left 1; (first | ((with_reducible refine (m _).trans ?_); rfl) | rfl)) | ((with_reducible refine go_i (x := ?_) ?_ ?_); rotate_left 1; (first | ((with_reducible refine (m _).trans ?_); rfl) | rfl)) | ((with_reducible refine go_b (x := ?_) ?_ ?_); rotate_left 1; (first | ((with_reducible refine (m _).trans ?_); rfl) | rfl)) | ((with_reducible refine go_l (x := ?_) (l := ?_) (c := ?_) ?_ ?_); rotate_left 3; (first | ((with_reducible refine (m _).trans ?_); rfl) | rfl)) | ((with_reducible refine go_p (x := ?_) ?_ ?_); rotate_left 1; (first | ((with_reducible refine (m _).trans ?_); rfl) | rfl)) | ((with_reducible refine go_halst rfl ?_ ?_ ?_); rfl; rfl) | (with_reducible refine go_halN rfl ?_) | (with_reducible refine go_t d1 ?_) | (with_reducible refine go_f d1 ?_) | (with_reducible refine go_t d2 ?_) | (with_reducible refine go_f d2 ?_) | ((with_reducible refine go_t ?_ ?_); (show _ = true; rfl)) | ((with_reducible refine go_f ?_ ?_); (show _ = false; rfl)) | (with_reducible refine go_ne ?_) | (with_reducible refine go_eq ?_) | (with_reducible refine go_fad ?_) | (with_reducible refine go_nil ?_))
    rfl
  have d2 := decide_eq_false c2
  obtain ⟨w, rfl⟩ : ∃ w : Nat, n = w := ⟨n.toNat, by omega⟩
  have er : rU bs (w : Int) s = back s (rcnt bs 1 (w + 1) 0 s) := by unfold rU; rw [if_pos ⟨by omega, by omega⟩, Int.toNat_natCast]
  obtain ⟨H3, e3, R3, b3⟩ := uCntU_l k h.ok w (by omega) w k 0 (by omega) (by omega) H s h
  simp only [Int.natCast_zero] at e3
  rw [er]
  refine ⟨H3, fun R K => ?_, R3, b3⟩
  unfold R09_Reader_Unary R09_Reader_Unary_b R09_Reader_Unary_p0 R09_Reader_Unary_p0_b R09_Reader_Unary_p1 R09_Reader_Unary_p1_b
  repeat (first | ((with_reducible refine go_ip (x := ?_) ?_ ?_); rotate_left 1; (first | ((with_reducible refine (m _).trans ?_); rfl) | rfl)) | ((with_reducible refine go_bp (x := ?_) ?_ ?_); rotate_left 1; (first | ((with_reducible refine (m _).trans ?_); rfl) | rfl)) | ((with_reducible refine go_lp (x := ?_) (l := ?_) (c := ?_) ?_ ?_); rotate_left 3; (first | ((with_reducible refine (m _).trans ?_); rfl) | rfl)) | ((with_reducible refine go_pp (x := ?_) ?_ ?_); rotate_left 1; (first | ((with_reducible refine (m _).trans ?_); rfl) | rfl)) | ((with_reducible refine go_i (x := ?_) ?_ ?_); rotate_left 1; (first | ((with_reducible refine (m _).trans ?_); rfl) | rfl)) | ((with_reducible refine go_b (x := ?_) ?_ ?_); rotate_left 1; (first | ((with_reducible refine (m _).trans ?_); rfl) | rfl)) | ((with_reducible refine go_l (x := ?_) (l := ?_) (c := ?_) ?_ ?_); rotate_left 3; (first | ((with_reducible refine (m _).trans ?_); rfl) | rfl)) | ((with_reducible refine go_p (x := ?_) ?_ ?_); rotate_left 1; (first | ((with_reducible refine (m _).trans ?_); rfl) | rfl)) | ((with_reducible refine go_halst rfl ?_ ?_ ?_); rfl; rfl) | (with_reducible refine go_halN rfl ?_) | (with_reducible refine go_t d1 ?_) | (with_reducible refine go_f d1 ?_) | (with_reducible refine go_t d2 ?_) | (with_reducible refine go_f d2 ?_) | ((with_reducible refine go_t ?_ ?_); (show _ = true; rfl)) | ((with_reducible refine go_f ?_ ?_); (show _ = false; rfl)) | (with_reducible refine go_ne ?_) | (with_reducible refine go_eq ?_) | (with_reducible refine go_fad ?_) | (with_reducible refine go_nil ?_))
  exact e3 _ _
theorem uAlign_eq (k : Nat) {H : Heap} {p : Nat} {q : Option Addr} {bs : List Int} {s : Nat × Nat} (h : Rd H p q bs s) :
    ∃ H', (∀ (R : Type) (K : Int → Int → Heap → Option R), R09_Reader_Align k (some ⟨p, 0, none⟩) H K = K (rA bs s).1.1 (rA bs s).1.2 H') ∧ Rd H' p q bs (rA bs s).2 ∧ But p H H' := by
  obtain ⟨c, hO⟩ := h.c
  obtain ⟨a, l⟩ := s
  have hok := h.ok
  have ha := hok.a
  have hl7 := hok.l
  have hz := hok.z
  have hlen := h.by_.2
  simp only at ha hl7 hz
  have m : ∀ o, hcell H p o = [Value.bool true, .slice q bs.length c, .int .i64 ((a : Nat) : Int), .int .i64 ((l : Nat) : Int)][o]? := fun o => hO.sees.cell o
  have last : ∀ (H2 : Heap) (x : Nat), Owns H2 p (rcl q bs.length c x l) 0 → But p H H2 → x ≤ bs.length → ∃ H', (∀ (R : Type) (K : Int → Int → Heap → Option R), (hnil (some ⟨p, 0, none⟩) fun p202 => hfad 3 p202 fun p203 => hst1 H2 p203 (.int .i64 0) fun H204 => hnil (some ⟨p, 0, none⟩) fun p205 => hfad 2 p205 fun p206 => ldI .i64 H204 p206 fun n207 => K n207 0 H204) = K ((x : Nat) : Int) 0 H') ∧ Rd H' p q bs (x, 0) ∧ But p H H' := by
    intro H2 x hO2 b2 hx
    obtain ⟨H3, e3, O3, b3, n3⟩ := Rd.st3 hO2 0
    have m3 : ∀ o, hcell H3 p o = [Value.bool true, .slice q bs.length c, .int .i64 ((x : Nat) : Int), .int .i64 0][o]? := fun o => O3.sees.cell o
    refine ⟨H3, fun R K => ?_, ⟨⟨c, O3⟩, h.sh.but (b2.trans b3) h.ap, h.ap, ⟨hx, by simp only; omega, fun hh => by simp only at hh; omega⟩, h.by_⟩, b2.trans b3⟩
    have e3' : ∀ (R : Type) (K : Heap → Option R), hst1 H2 (some ⟨p, 3, none⟩) (.int .i64 0) K = K H3 := e3
    repeat (first | (with_reducible refine (e3' _ _).trans ?_) | ((with_reducible refine go_ip (x := ?_) ?_ ?_); rotate_left 1; (first | ((with_reducible refine (m3 _).trans ?_); rfl) | rfl)) | ((with_reducible refine go_bp (x := ?_) ?_ ?_); rotate_left 1; (first | ((with_reducible refine (m3 _).trans ?_); rfl) | rfl)) | ((with_reducible refine go_lp (x := ?_) (l := ?_) (c := ?_) ?_ ?_); rotate_left 3; (first | ((with_reducible refine (m3 _).trans ?_); rfl) | rfl)) | ((with_reducible refine go_pp (x := ?_) ?_ ?_); rotate_left 1; (first | ((with_reducible refine (m3 _).trans ?_); rfl) | rfl)) | ((with_reducible refine go_i (x := ?_) ?_ ?_); rotate_left 1; (first | ((with_reducible refine (m3 _).trans ?_); rfl) | rfl)) | ((with_reducible refine go_b (x := ?_) ?_ ?_); rotate_left 1; (first | ((with_reducible refine (m3 _).trans ?_); rfl) | rfl)) | ((with_reducible refine go_l (x := ?_) (l := ?_) (c := ?_) ?_ ?_); rotate_left 3; (first | ((with_reducible refine (m3 _).trans ?_); rfl) | rfl)) | ((with_reducible refine go_p (x := ?_) ?_ ?_); rotate_left 1; (first | ((with_reducible refine (m3 _).trans ?_); rfl) | rfl)) | ((with_reducible refine go_halst rfl ?_ ?_ ?_); rfl; rfl) | (with_reducible refine go_halN rfl ?_) | ((with_reducible refine go_t ?_ ?_); (show _ = true; rfl)) | ((with_reducible refine go_f ?_ ?_); (show _ = false; rfl)) | (with_reducible refine go_ne ?_) | (with_reducible refine go_eq ?_) | (with_reducible refine go_fad ?_) | (with_reducible refine go_nil ?_))
    rfl
  have hp0 : ∀ (R : Type) (KN : Option Addr → Option R) (KR : Int → Int → Option R), R09_Reader_Align_p0 k (some ⟨p, 0, none⟩) H KN KR = KN (some ⟨p, 0, none⟩) := fun R KN KR => by
    unfold R09_Reader_Align_p0 R09_Reader_Align_p0_b
    repeat (first | ((with_reducible refine go_ip (x := ?_) ?_ ?_); rotate_left 1; (first | ((with_reducible refine (m _).trans ?_); rfl) | rfl)) | ((with_reducible refine go_bp (x := ?_) ?_ ?_); rotate_left 1; (first | ((with_reducible refine (m _).trans ?_); rfl) | rfl)) | ((with_reducible refine go_lp (x := ?_) (l := ?_) (c := ?_) ?_ ?_); rotate_left 3; (first | ((with_reducible refine (m _).trans ?_); rfl) | rfl)) | ((with_reducible refine go_pp (x := ?_) ?_ ?_); rotate_left 1; (first | ((with_reducible refine (m _).trans ?_); rfl) | rfl)) | ((with_reducible refine go_i (x := ?_) ?_ ?_); rotate_left 1; (first | ((with_reducible refine (m _).trans ?_); rfl) | rfl)) | ((with_reducible refine go_b (x := ?_) ?_ ?_); rotate_left 1; (first | ((with_reducible refine (m _).trans ?_); rfl) | rfl)) | ((with_reducible refine go_l (x := ?_) (l := ?_) (c := ?_) ?_ ?_); rotate_left 3; (first | ((with_reducible refine (m _).trans ?_); rfl) | rfl)) | ((with_reducible refine go_p (x := ?_) ?_ ?_); rotate_left 1; (first | ((with_reducible refine (m _).trans ?_); rfl) | rfl)) | ((with_reducible refine go_halst rfl ?_ ?_ ?_); rfl; rfl) | (with_reducible refine go_halN rfl ?_) | ((with_reducible refine go_t ?_ ?_); (show _ = true; rfl)) | ((with_reducible refine go_f ?_ ?_); (show _ = false; rfl)) | (with_reducible refine go_ne ?_) | (with_reducible refine go_eq ?_) | (with_reducible refine go_fad ?_) | (with_reducible refine go_nil ?_))
    rfl
  have hp3 : 0 < a → ∀ (R : Type) (KN : Option Addr → Bool → Option R), R09_Reader_Align_p3 k (some ⟨p, 0, none⟩) H KN = KN (some ⟨p, 0, none⟩) (decide (l = 0 ∧ bs.getD (a - 1) 0 = 255)) := fun h0 R KN => by
    by_cases hl0 : l = 0
    · have d2 : (((l : Nat) : Int) == 0) = true := by rw [hl0]; rfl
      have d3 : decide (((a : Nat) : Int) > 0) = true := decide_eq_true (by omega)
      obtain ⟨z, e1, e2⟩ := byte_at' h.sh (i := a - 1) (by omega)
      have w1 : IntKind.wrap .i64 (((a : Nat) : Int) - 1) = ((a - 1 : Nat) : Int) := by rw [w64 (by omega) (by omega)]; omega
      have e1' : ∀ (R : Type) (K : Option Addr → Option R), hidx q bs.length (IntKind.wrap .i64 (((a : Nat) : Int) - 1)) 1 K = K z := by rw [w1]; exact e1
      have hd : decide (l = 0 ∧ bs.getD (a - 1) 0 = 255) = (bs.getD (a - 1) 0 == 255) := by
        by_cases h255 : bs.getD (a - 1) 0 = 255
        · rw [h255, decide_eq_true ⟨hl0, rfl⟩]; rfl
        · rw [decide_eq_false fun hh => h255 hh.2]; symm; simpa using h255
      unfold R09_Reader_Align_p3 R09_Reader_Align_p3_b
      repeat (first | (with_reducible refine (e1' _ _).trans ?_) | (with_reducible refine (e2 _ _).trans ?_) | ((with_reducible refine go_ip (x := ?_) ?_ ?_); rotate_left 1; (first | ((with_reducible refine (m _).trans ?_); rfl) | rfl)) | ((with_reducible refine go_bp (x := ?_) ?_ ?_); rotate_left 1; (first | ((with_reducible refine (m _).trans ?_); rfl) | rfl)) | ((with_reducible refine go_lp (x := ?_) (l := ?_) (c := ?_) ?_ ?_); rotate_left 3; (first | ((with_reducible refine (m _).trans ?_); rfl) | rfl)) | ((with_reducible refine go_pp (x := ?_) ?_ ?_); rotate_left 1; (first | ((with_reducible refine (m _).trans ?_); rfl) | rfl)) | ((with_reducible refine go_i (x := ?_) ?_ ?_); rotate_left 1; (first | ((with_reducible refine (m _).trans ?_); rfl) | rfl)) | ((with_reducible refine go_b (x := ?_) ?_ ?_); rotate_left 1; (first | ((with_reducible refine (m _).trans ?_); rfl) | rfl)) | ((with_reducible refine go_l (x := ?_) (l := ?_) (c := ?_) ?_ ?_); rotate_left 3; (first | ((with_reducible refine (m _).trans ?_); rfl) | rfl)) | ((with_reducible refine go_p (x := ?_) ?_ ?_); rotate_left 1; (first | ((with_reducible refine (m _).trans ?_); rfl) | rfl)) | ((with_reducible refine go_halst rfl ?_ ?_ ?_); rfl; rfl) | (with_reducible refine go_halN rfl ?_) | (with_reducible refine go_t d2 ?_) | (with_reducible refine go_f d2 ?_) | (with_reducible refine go_t d3 ?_) | (with_reducible refine go_f d3 ?_) | ((with_reducible refine go_t ?_ ?_); (show _ = true; rfl)) | ((with_reducible refine go_f ?_ ?_); (show _ = false; rfl)) | (with_reducible refine go_ne ?_) | (with_reducible refine go_eq ?_) | (with_reducible refine go_fad ?_) | (with_reducible refine go_nil ?_))
      rw [hd]
    · have d2 : (((l : Nat) : Int) == 0) = false := by rw [beq_eq_false_iff_ne]; omega
      unfold R09_Reader_Align_p3 R09_Reader_Align_p3_b
      repeat (first | ((with_reducible refine go_ip (x := ?_) ?_ ?_); rotate_left 1; (first | ((with_reducible refine (m _).trans ?_); rfl) | rfl)) | ((with_reducible refine go_bp (x := ?_) ?_ ?_); rotate_left 1; (first | ((with_reducible refine (m _).trans ?_); rfl) | rfl)) | ((with_reducible refine go_lp (x := ?_) (l := ?_) (c := ?_) ?_ ?_); rotate_left 3; (first | ((with_reducible refine (m _).trans ?_); rfl) | rfl)) | ((with_reducible refine go_pp (x := ?_) ?_ ?_); rotate_left 1; (first | ((with_reducible refine (m _).trans ?_); rfl) | rfl)) | ((with_reducible refine go_i (x := ?_) ?_ ?_); rotate_left 1; (first | ((with_reducible refine (m _).trans ?_); rfl) | rfl)) | ((with_reducible refine go_b (x := ?_) ?_ ?_); rotate_left 1; (first | ((with_reducible refine (m _).trans ?_); rfl) | rfl)) | ((with_reducible refine go_l (x := ?_) (l := ?_) (c := ?_) ?_ ?_); rotate_left 3; (first | ((with_reducible refine (m _).trans ?_); rfl) | rfl)) | ((with_reducible refine go_p (x := ?_) ?_ ?_); rotate_left 1; (first | ((with_reducible refine (m _).trans ?_); rfl) | rfl)) | ((with_reducible refine go_halst rfl ?_ ?_ ?_); rfl; rfl) | (with_reducible refine go_halN rfl ?_) | (with_reducible refine go_t d2 ?_) | (with_reducible refine go_f d2 ?_) | ((with_reducible refine go_t ?_ ?_); (show _ = true; rfl)) | ((with_reducible refine go_f ?_ ?_); (show _ = false; rfl)) | (with_reducible refine go_ne ?_) | (with_reducible refine go_eq ?_) | (with_reducible refine go_fad ?_) | (with_reducible refine go_nil ?_))
      rw [decide_eq_false fun hh => hl0 hh.1]
  by_cases h0 : a = 0
  · have hl0 : l = 0 := by omega
    subst h0
    subst hl0
    obtain ⟨H2, e6, R2, b2⟩ := last H 0 hO (.refl _ _) (by omega)
    rw [show rA bs (0, 0) = ((0, 0), 0, 0) from if_pos rfl]
    refine ⟨H2, fun R K => ?_, R2, b2⟩
    have d1 : decide (((0 : Nat) : Int) > 0) = false := rfl
    have d2 : (((0 : Nat) : Int) == 0) = true := rfl
    have hp1 : ∀ (R : Type) (KN : Option Addr → Option R) (KR : Int → Int → Option R), R09_Reader_Align_p1 k (some ⟨p, 0, none⟩) H KN KR = KN (some ⟨p, 0, none⟩) := fun R KN KR => by
      unfold R09_Reader_Align_p1 R09_Reader_Align_p1_b
      repeat (first | ((with_reducible refine go_ip (x := ?_) ?_ ?_); rotate_left 1; (first | ((with_reducible refine (m _).trans ?_); rfl) | rfl)) | ((with_reducible refine go_bp (x := ?_) ?_ ?_); rotate_left 1; (first | ((with_reducible refine (m _).trans ?_); rfl) | rfl)) | ((with_reducible refine go_lp (x := ?_) (l := ?_) (c := ?_) ?_ ?_); rotate_left 3; (first | ((with_reducible refine (m _).trans ?_); rfl) | rfl)) | ((with_reducible refine go_pp (x := ?_) ?_ ?_); rotate_left 1; (first | ((with_reducible refine (m _).trans ?_); rfl) | rfl)) | ((with_reducible refine go_i (x := ?_) ?_ ?_); rotate_left 1; (first | ((with_reducible refine (m _).trans ?_); rfl) | rfl)) | ((with_reducible refine go_b (x := ?_) ?_ ?_); rotate_left 1; (first | ((with_reducible refine (m _).trans ?_); rfl) | rfl)) | ((with_reducible refine go_l (x := ?_) (l := ?_) (c := ?_) ?_ ?_); rotate_left 3; (first | ((with_reducible refine (m _).trans ?_); rfl) | rfl)) | ((with_reducible refine go_p (x := ?_) ?_ ?_); rotate_left 1; (first | ((with_reducible refine (m _).trans ?_); rfl) | rfl)) | ((with_reducible refine go_halst rfl ?_ ?_ ?_); rfl; rfl) | (with_reducible refine go_halN rfl ?_) | (with_reducible refine go_t d1 ?_) | (with_reducible refine go_f d1 ?_) | ((with_reducible refine go_t ?_ ?_); (show _ = true; rfl)) | ((with_reducible refine go_f ?_ ?_); (show _ = false; rfl)) | (with_reducible refine go_ne ?_) | (with_reducible refine go_eq ?_) | (with_reducible refine go_fad ?_) | (with_reducible refine go_nil ?_))
      rfl
    have hp2 : ∀ (R : Type) (KN : Option Addr → Heap → Option R) (KR : Int → Int → Heap → Option R), R09_Reader_Align_p2 k (some ⟨p, 0, none⟩) H KN KR = KN (some ⟨p, 0, none⟩) H := fun R KN KR => by
      unfold R09_Reader_Align_p2 R09_Reader_Align_p2_b R09_Reader_Align_p3 R09_Reader_Align_p3_b
      repeat (first | ((with_reducible refine go_ip (x := ?_) ?_ ?_); rotate_left 1; (first | ((with_reducible refine (m _).trans ?_); rfl) | rfl)) | ((with_reducible refine go_bp (x := ?_) ?_ ?_); rotate_left 1; (first | ((with_reducible refine (m _).trans ?_); rfl) | rfl)) | ((with_reducible refine go_lp (x := ?_) (l := ?_) (c := ?_) ?_ ?_); rotate_left 3; (first | ((with_reducible refine (m _).trans ?_); rfl) | rfl)) | ((with_reducible refine go_pp (x := ?_) ?_ ?_); rotate_left 1; (first | ((with_reducible refine (m _).trans ?_); rfl) | rfl)) | ((with_reducible refine go_i (x := ?_) ?_ ?_); rotate_left 1; (first | ((with_reducible refine (m _).trans ?_); rfl) | rfl)) | ((with_reducible refine go_b (x := ?_) ?_ ?_); rotate_left 1; (first | ((with_reducible refine (m _).trans ?_); rfl) | rfl)) | ((with_reducible refine go_l (x := ?_) (l := ?_) (c := ?_) ?_ ?_); rotate_left 3; (first | ((with_reducible refine (m _).trans ?_); rfl) | rfl)) | ((with_reducible refine go_p (x := ?_) ?_ ?_); rotate_left 1; (first | ((with_reducible refine (m _).trans ?_); rfl) | rfl)) | ((with_reducible refine go_halst rfl ?_ ?_ ?_); rfl; rfl) | (with_reducible refine go_halN rfl ?_) | (with_reducible refine go_t d2 ?_) | (with_reducible refine go_f d2 ?_) | (with_reducible refine go_t d1 ?_) | (with_reducible refine go_f d1 ?_) | ((with_reducible refine go_t ?_ ?_); (show _ = true; rfl)) | ((with_reducible refine go_f ?_ ?_); (show _ = false; rfl)) | (with_reducible refine go_ne ?_) | (with_reducible refine go_eq ?_) | (with_reducible refine go_fad ?_) | (with_reducible refine go_nil ?_))
      rfl
    unfold R09_Reader_Align R09_Reader_Align_b
    refine (hp0 _ _ _).trans ((hp1 _ _ _).trans ((hp2 _ _ _).trans ?_))
    exact e6 R K
  obtain ⟨z, e1, e2⟩ := byte_at' h.sh (i := a - 1) (by omega)
  have w1 : IntKind.wrap .i64 (((a : Nat) : Int) - 1) = ((a - 1 : Nat) : Int) := by rw [w64 (by omega) (by omega)]; omega
  have e1' : ∀ (R : Type) (K : Option Addr → Option R), hidx q bs.length (IntKind.wrap .i64 (((a : Nat) : Int) - 1)) 1 K = K z := by rw [w1]; exact e1
  have hp7 := pow_le7 hl7
  have hpp := p2pos l
  have s1 : ∀ (R : Type) (K : Int → Option R), hbin .shl .i64 1 (IntKind.wrap .u64 ((l : Nat) : Int)) K = K ((2 ^ l : Nat) : Int) := fun R K => by
    have := shl64 (a := 1) (n := l) (by omega) (by omega) K
    rwa [Nat.one_mul] at this
  obtain ⟨v, hv, hv2⟩ := h.by_.at (a - 1)
  have s2 : ∀ (R : Type) (K : Int → Option R), hbin .and .i64 (IntKind.wrap .i64 (bs.getD (a - 1) 0)) (IntKind.wrap .i64 (((2 ^ l : Nat) : Int) - 1)) K = K (((bs.getD (a - 1) 0).toNat % 2 ^ l : Nat) : Int) := fun R K => by
    rw [hv, w64 (n := (v : Int)) (by omega) (by omega), w64 (by omega) (by omega), show ((2 ^ l : Nat) : Int) - 1 = ((2 ^ l - 1 : Nat) : Int) from by omega, and64 (by omega) (by omega), Nat.and_two_pow_sub_one_eq_mod, Int.toNat_natCast]
  by_cases h1 : (bs.getD (a - 1) 0).toNat % 2 ^ l = 0
  · have d1 : ((((bs.getD (a - 1) 0).toNat % 2 ^ l : Nat) : Int) != 0) = false := by rw [h1]; rfl
    have hp1 : ∀ (R : Type) (KN : Option Addr → Option R) (KR : Int → Int → Option R), R09_Reader_Align_p1 k (some ⟨p, 0, none⟩) H KN KR = KN (some ⟨p, 0, none⟩) := fun R KN KR => by
      by_cases hl0 : l > 0
      · have d0 : decide (((l : Nat) : Int) > 0) = true := decide_eq_true (by omega)
        unfold R09_Reader_Align_p1 R09_Reader_Align_p1_b
        repeat (first | (with_reducible refine (e1' _ _).trans ?_) | (with_reducible refine (e2 _ _).trans ?_) | (with_reducible refine (s1 _ _).trans ?_) | (with_reducible refine (s2 _ _).trans ?_) | ((with_reducible refine go_ip (x := ?_) ?_ ?_); rotate_left 1; (first | ((with_reducible refine (m _).trans ?_); rfl) | rfl)) | ((with_reducible refine go_bp (x := ?_) ?_ ?_); rotate_left 1; (first | ((with_reducible refine (m _).trans ?_); rfl) | rfl)) | ((with_reducible refine go_lp (x := ?_) (l := ?_) (c := ?_) ?_ ?_); rotate_left 3; (first | ((with_reducible refine (m _).trans ?_); rfl) | rfl)) | ((with_reducible refine go_pp (x := ?_) ?_ ?_); rotate_left 1; (first | ((with_reducible refine (m _).trans ?_); rfl) | rfl)) | ((with_reducible refine go_i (x := ?_) ?_ ?_); rotate_left 1; (first | ((with_reducible refine (m _).trans ?_); rfl) | rfl)) | ((with_reducible refine go_b (x := ?_) ?_ ?_); rotate_left 1; (first | ((with_reducible refine (m _).trans ?_); rfl) | rfl)) | ((with_reducible refine go_l (x := ?_) (l := ?_) (c := ?_) ?_ ?_); rotate_left 3; (first | ((with_reducible refine (m _).trans ?_); rfl) | rfl)) | ((with_reducible refine go_p (x := ?_) ?_ ?_); rotate_left 1; (first | ((with_reducible refine (m _).trans ?_); rfl) | rfl)) | ((with_reducible refine go_halst rfl ?_ ?_ ?_); rfl; rfl) | (with_reducible refine go_halN rfl ?_) | (with_reducible refine go_t d0 ?_) | (with_reducible refine go_f d0 ?_) | (with_reducible refine go_t d1 ?_) | (with_reducible refine go_f d1 ?_) | ((with_reducible refine go_t ?_ ?_); (show _ = true; rfl)) | ((with_reducible refine go_f ?_ ?_); (show _ = false; rfl)) | (with_reducible refine go_ne ?_) | (with_reducible refine go_eq ?_) | (with_reducible refine go_fad ?_) | (with_reducible refine go_nil ?_))
        rfl
      · have d0 : decide (((l : Nat) : Int) > 0) = false := decide_eq_false (by omega)
        unfold R09_Reader_Align_p1 R09_Reader_Align_p1_b
        repeat (first | ((with_reducible refine go_ip (x := ?_) ?_ ?_); rotate_left 1; (first | ((with_reducible refine (m _).trans ?_); rfl) | rfl)) | ((with_reducible refine go_bp (x := ?_) ?_ ?_); rotate_left 1; (first | ((with_reducible refine (m _).trans ?_); rfl) | rfl)) | ((with_reducible refine go_lp (x := ?_) (l := ?_) (c := ?_) ?_ ?_); rotate_left 3; (first | ((with_reducible refine (m _).trans ?_); rfl) | rfl)) | ((with_reducible refine go_pp (x := ?_) ?_ ?_); rotate_left 1; (first | ((with_reducible refine (m _).trans ?_); rfl) | rfl)) | ((with_reducible refine go_i (x := ?_) ?_ ?_); rotate_left 1; (first | ((with_reducible refine (m _).trans ?_); rfl) | rfl)) | ((with_reducible refine go_b (x := ?_) ?_ ?_); rotate_left 1; (first | ((with_reducible refine (m _).trans ?_); rfl) | rfl)) | ((with_reducible refine go_l (x := ?_) (l := ?_) (c := ?_) ?_ ?_); rotate_left 3; (first | ((with_reducible refine (m _).trans ?_); rfl) | rfl)) | ((with_reducible refine go_p (x := ?_) ?_ ?_); rotate_left 1; (first | ((with_reducible refine (m _).trans ?_); rfl) | rfl)) | ((with_reducible refine go_halst rfl ?_ ?_ ?_); rfl; rfl) | (with_reducible refine go_halN rfl ?_) | (with_reducible refine go_t d0 ?_) | (with_reducible refine go_f d0 ?_) | ((with_reducible refine go_t ?_ ?_); (show _ = true; rfl)) | ((with_reducible refine go_f ?_ ?_); (show _ = false; rfl)) | (with_reducible refine go_ne ?_) | (with_reducible refine go_eq ?_) | (with_reducible refine go_fad ?_) | (with_reducible refine go_nil ?_))
        rfl
    have hp3' := hp3 (by omega)
    by_cases h2 : l = 0 ∧ bs.getD (a - 1) 0 = 255
    · have d2 : decide (l = 0 ∧ bs.getD (a - 1) 0 = 255) = true := decide_eq_true h2
      by_cases h3 : a = bs.length
      · have d4 : decide (((a : Nat) : Int) ≥ ((bs.length : Nat) : Int)) = true := decide_eq_true (by omega)
        have er : rA bs (a, l) = ((0, 7), a, l) := by unfold rA; rw [if_neg h0, if_neg (fun hh => hh h1), if_pos h2, if_pos h3]
        rw [er]
        refine ⟨H, fun R K => ?_, h, .refl _ _⟩
        unfold R09_Reader_Align R09_Reader_Align_b R09_Reader_Align_p2 R09_Reader_Align_p2_b
        refine (hp0 _ _ _).trans ((hp1 _ _ _).trans ((hp3' _ _).trans (go_t d2 ?_)))
        repeat (first | ((with_reducible refine go_ip (x := ?_) ?_ ?_); rotate_left 1; (first | ((with_reducible refine (m _).trans ?_); rfl) | rfl)) | ((with_reducible refine go_bp (x := ?_) ?_ ?_); rotate_left 1; (first | ((with_reducible refine (m _).trans ?_); rfl) | rfl)) | ((with_reducible refine go_lp (x := ?_) (l := ?_) (c := ?_) ?_ ?_); rotate_left 3; (first | ((with_reducible refine (m _).trans ?_); rfl) | rfl)) | ((with_reducible refine go_pp (x := ?_) ?_ ?_); rotate_left 1; (first | ((with_reducible refine (m _).trans ?_); rfl) | rfl)) | ((with_reducible refine go_i (x := ?_) ?_ ?_); rotate_left 1; (first | ((with_reducible refine (m _).trans ?_); rfl) | rfl)) | ((with_reducible refine go_b (x := ?_) ?_ ?_); rotate_left 1; (first | ((with_reducible refine (m _).trans ?_); rfl) | rfl)) | ((with_reducible refine go_l (x := ?_) (l := ?_) (c := ?_) ?_ ?_); rotate_left 3; (first | ((with_reducible refine (m _).trans ?_); rfl) | rfl)) | ((with_reducible refine go_p (x := ?_) ?_ ?_); rotate_left 1; (first | ((with_reducible refine (m _).trans ?_); rfl) | rfl)) | ((with_reducible refine go_halst rfl ?_ ?_ ?_); rfl; rfl) | (with_reducible refine go_halN rfl ?_) | (with_reducible refine go_t d4 ?_) | (with_reducible refine go_f d4 ?_) | ((with_reducible refine go_t ?_ ?_); (show _ = true; rfl)) | ((with_reducible refine go_f ?_ ?_); (show _ = false; rfl)) | (with_reducible refine go_ne ?_) | (with_reducible refine go_eq ?_) | (with_reducible refine go_fad ?_) | (with_reducible refine go_nil ?_))
        rfl
      · have d4 : decide (((a : Nat) : Int) ≥ ((bs.length : Nat) : Int)) = false := decide_eq_false (by omega)
        obtain ⟨y, e3, e4⟩ := byte_at' h.sh (i := a) (by omega)
        by_cases h4 : bs.getD a 0 = 0
        · have d5 : (bs.getD a 0 != 0) = false := by rw [h4]; rfl
          have er : rA bs (a, l) = ((((a + 1 : Nat) : Int), 0), a + 1, 0) := by unfold rA; rw [if_neg h0, if_neg (fun hh => hh h1), if_pos h2, if_neg h3, if_neg (fun hh => hh h4)]
          obtain ⟨H1, e5, O1, b1, n1⟩ := Rd.st2 hO (a + 1)
          have w2 : IntKind.wrap .i64 (((a : Nat) : Int) + 1) = ((a + 1 : Nat) : Int) := by rw [w64 (by omega) (by omega)]; omega
          have e5' : ∀ (R : Type) (K : Heap → Option R), hst1 H (some ⟨p, 2, none⟩) (.int .i64 (IntKind.wrap .i64 (((a : Nat) : Int) + 1))) K = K H1 := by rw [w2]; exact e5
          obtain ⟨H2, e6, R2, b2⟩ := last H1 (a + 1) O1 b1 (by omega)
          rw [er]
          refine ⟨H2, fun R K => ?_, R2, b2⟩
          unfold R09_Reader_Align R09_Reader_Align_b R09_Reader_Align_p2 R09_Reader_Align_p2_b
          refine (hp0 _ _ _).trans ((hp1 _ _ _).trans ((hp3' _ _).trans (go_t d2 ?_)))
          repeat (first | (with_reducible refine (e3 _ _).trans ?_) | (with_reducible refine (e4 _ _).trans ?_) | (with_reducible refine (e5' _ _).trans ?_) | ((with_reducible refine go_ip (x := ?_) ?_ ?_); rotate_left 1; (first | ((with_reducible refine (m _).trans ?_); rfl) | rfl)) | ((with_reducible refine go_bp (x := ?_) ?_ ?_); rotate_left 1; (first | ((with_reducible refine (m _).trans ?_); rfl) | rfl)) | ((with_reducible refine go_lp (x := ?_) (l := ?_) (c := ?_) ?_ ?_); rotate_left 3; (first | ((with_reducible refine (m _).trans ?_); rfl) | rfl)) | ((with_reducible refine go_pp (x := ?_) ?_ ?_); rotate_left 1; (first | ((with_reducible refine (m _).trans ?_); rfl) | rfl)) | ((with_reducible refine go_i (x := ?_) ?_ ?_); rotate_left 1; (first | ((with_reducible refine (m _).trans ?_); rfl) | rfl)) | ((with_reducible refine go_b (x := ?_) ?_ ?_); rotate_left 1; (first | ((with_reducible refine (m _).trans ?_); rfl) | rfl)) | ((with_reducible refine go_l (x := ?_) (l := ?_) (c := ?_) ?_ ?_); rotate_left 3; (first | ((with_reducible refine (m _).trans ?_); rfl) | rfl)) | ((with_reducible refine go_p (x := ?_) ?_ ?_); rotate_left 1; (first | ((with_reducible refine (m _).trans ?_); rfl) | rfl)) | ((with_reducible refine go_halst rfl ?_ ?_ ?_); rfl; rfl) | (with_reducible refine go_halN rfl ?_) | (with_reducible refine go_t d4 ?_) | (with_reducible refine go_f d4 ?_) | (with_reducible refine go_t d5 ?_) | (with_reducible refine go_f d5 ?_) | ((with_reducible refine go_t ?_ ?_); (show _ = true; rfl)) | ((with_reducible refine go_f ?_ ?_); (show _ = false; rfl)) | (with_reducible refine go_ne ?_) | (with_reducible refine go_eq ?_) | (with_reducible refine go_fad ?_) | (with_reducible refine go_nil ?_))
          exact e6 R K
        · have d5 : (bs.getD a 0 != 0) = true := by simpa using h4
          have er : rA bs (a, l) = ((0, 8), a, l) := by unfold rA; rw [if_neg h0, if_neg (fun hh => hh h1), if_pos h2, if_neg h3, if_pos h4]
          rw [er]
          refine ⟨H, fun R K => ?_, h, .refl _ _⟩
          unfold R09_Reader_Align R09_Reader_Align_b R09_Reader_Align_p2 R09_Reader_Align_p2_b
          refine (hp0 _ _ _).trans ((hp1 _ _ _).trans ((hp3' _ _).trans (go_t d2 ?_)))
          repeat (first | (with_reducible refine (e3 _ _).trans ?_) | (with_reducible refine (e4 _ _).trans ?_) | ((with_reducible refine go_ip (x := ?_) ?_ ?_); rotate_left 1; (first | ((with_reducible refine (m _).trans ?_); rfl) | rfl)) | ((with_reducible refine go_bp (x := ?_) ?_ ?_); rotate_left 1; (first | ((with_reducible refine (m _).trans ?_); rfl) | rfl)) | ((with_reducible refine go_lp (x := ?_) (l := ?_) (c := ?_) ?_ ?_); rotate_left 3; (first | ((with_reducible refine (m _).trans ?_); rfl) | rfl)) | ((with_reducible refine go_pp (x := ?_) ?_ ?_); rotate_left 1; (first | ((with_reducible refine (m _).trans ?_); rfl) | rfl)) | ((with_reducible refine go_i (x := ?_) ?_ ?_); rotate_left 1; (first | ((with_reducible refine (m _).trans ?_); rfl) | rfl)) | ((with_reducible refine go_b (x := ?_) ?_ ?_); rotate_left 1; (first | ((with_reducible refine (m _).trans ?_); rfl) | rfl)) | ((with_reducible refine go_l (x := ?_) (l := ?_) (c := ?_) ?_ ?_); rotate_left 3; (first | ((with_reducible refine (m _).trans ?_); rfl) | rfl)) | ((with_reducible refine go_p (x := ?_) ?_ ?_); rotate_left 1; (first | ((with_reducible refine (m _).trans ?_); rfl) | rfl)) | ((with_reducible refine go_halst rfl ?_ ?_ ?_); rfl; rfl) | (with_reducible refine go_halN rfl ?_) | (with_reducible refine go_t d4 ?_) | (with_reducible refine go_f d4 ?_) | (with_reducible refine go_t d5 ?_) | (with_reducible refine go_f d5 ?_) | ((with_reducible refine go_t ?_ ?_); (show _ = true; rfl)) | ((with_reducible refine go_f ?_ ?_); (show _ = false; rfl)) | (with_reducible refine go_ne ?_) | (with_reducible refine go_eq ?_) | (with_reducible refine go_fad ?_) | (with_reducible refine go_nil ?_))
          rfl
    · have d2 : decide (l = 0 ∧ bs.getD (a - 1) 0 = 255) = false := decide_eq_false h2
      have er : rA bs (a, l) = ((((a : Nat) : Int), 0), a, 0) := by unfold rA; rw [if_neg h0, if_neg (fun hh => hh h1), if_neg h2]
      obtain ⟨H2, e6, R2, b2⟩ := last H a hO (.refl _ _) ha
      rw [er]
      refine ⟨H2, fun R K => ?_, R2, b2⟩
      unfold R09_Reader_Align R09_Reader_Align_b R09_Reader_Align_p2 R09_Reader_Align_p2_b
      refine (hp0 _ _ _).trans ((hp1 _ _ _).trans ((hp3' _ _).trans (go_f d2 ?_)))
      exact e6 R K
  · have d1 : ((((bs.getD (a - 1) 0).toNat % 2 ^ l : Nat) : Int) != 0) = true := by
      rw [bne_iff_ne]; exact fun hh => h1 (by exact_mod_cast hh)
    have hl0 : 0 < l := by
      rcases Nat.eq_zero_or_pos l with hh | hh
      · exact (h1 (by rw [hh, Nat.pow_zero, Nat.mod_one])).elim
      · exact hh
    have d0 : decide (((l : Nat) : Int) > 0) = true := decide_eq_true (by omega)
    have er : rA bs (a, l) = ((0, 8), a, l) := by unfold rA; rw [if_neg h0, if_pos h1]
    rw [er]
    refine ⟨H, fun R K => ?_, h, .refl _ _⟩
    unfold R09_Reader_Align R09_Reader_Align_b R09_Reader_Align_p1 R09_Reader_Align_p1_b
    refine (hp0 _ _ _).trans ?_
    repeat (first | (with_reducible refine (e1' _ _).trans ?_) | (with_reducible refine (e2 _ _).trans ?_) | (with_reducible refine (s1 _ _).trans ?_) | (with_reducible refine (s2 _ _).trans ?_) | ((with_reducible refine go_ip (x := ?_) ?_ ?_); rotate_left 1; (first | ((with_reducible refine (m _).trans ?_); rfl) | rfl)) | ((with_reducible refine go_bp (x := ?_) ?_ ?_); rotate_left 1; (first | ((with_reducible refine (m _).trans ?_); rfl) | rfl)) | ((with_reducible refine go_lp (x := ?_) (l := ?_) (c := ?_) ?_ ?_); rotate_left 3; (first | ((with_reducible refine (m _).trans ?_); rfl) | rfl)) | ((with_reducible refine go_pp (x := ?_) ?_ ?_); rotate_left 1; (first | ((with_reducible refine (m _).trans ?_); rfl) | rfl)) | ((with_reducible refine go_i (x := ?_) ?_ ?_); rotate_left 1; (first | ((with_reducible refine (m _).trans ?_); rfl) | rfl)) | ((with_reducible refine go_b (x := ?_) ?_ ?_); rotate_left 1; (first | ((with_reducible refine (m _).trans ?_); rfl) | rfl)) | ((with_reducible refine go_l (x := ?_) (l := ?_) (c := ?_) ?_ ?_); rotate_left 3; (first | ((with_reducible refine (m _).trans ?_); rfl) | rfl)) | ((with_reducible refine go_p (x := ?_) ?_ ?_); rotate_left 1; (first | ((with_reducible refine (m _).trans ?_); rfl) | rfl)) | ((with_reducible refine go_halst rfl ?_ ?_ ?_); rfl; rfl) | (with_reducible refine go_halN rfl ?_) | (with_reducible refine go_t d0 ?_) | (with_reducible refine go_f d0 ?_) | (with_reducible refine go_t d1 ?_) | (with_reducible refine go_f d1 ?_) | ((with_reducible refine go_t ?_ ?_); (show _ = true; rfl)) | ((with_reducible refine go_f ?_ ?_); (show _ = false; rfl)) | (with_reducible refine go_ne ?_) | (with_reducible refine go_eq ?_) | (with_reducible refine go_fad ?_) | (with_reducible refine go_nil ?_))
    rfl
theorem readRef_eq {k : Nat} (hk : 100000 < k) {H : Heap} {p : Nat} {q : Option Addr} {bs : List Int} {s : Nat × Nat} (h : Rd H p q bs s) (o : Int × Int × Int) :
    ∃ H', (∀ (R : Type) (K : Int → Int → Heap → Option R), L_readRef k (some ⟨p, 0, none⟩) o.1 o.2.1 o.2.2 H K = K (rO bs o s).1.1 (rO bs o s).1.2 H') ∧ Rd H' p q bs (rO bs o s).2 ∧ But p H H' := by
  obtain ⟨Hn, hHn⟩ : ∃ Hn, Hn = H ++ [some ⟨[.int .i64 o.1, .int .i64 o.2.1, .int .i64 o.2.2], false, 0⟩] := ⟨_, rfl⟩
  have o1 : Old H.length H Hn := hHn ▸ Old.app _ _
  have b0 : But p H Hn := .of_old o1
  have h1 := h.keep o1
  have m : ∀ i, hcell Hn H.length i = [Value.int .i64 o.1, .int .i64 o.2.1, .int .i64 o.2.2][i]? := fun i => by rw [hHn]; exact hcell_new _ _ _
  by_cases c0 : o.1 = 0
  · obtain ⟨H', e1, W, S⟩ := uGet_eq k h1
    have d0 : (o.1 == 0) = true := by rw [c0]; rfl
    rw [show rO bs o s = rget bs s from if_pos c0]
    refine ⟨H', fun R K => ?_, W, b0.trans S⟩
    unfold L_readRef L_readRef_b
    repeat (first | (with_reducible refine (e1 _ _).trans ?_) | ((with_reducible refine go_ip (x := ?_) ?_ ?_); rotate_left 1; (first | ((with_reducible refine (m _).trans ?_); rfl) | rfl)) | ((with_reducible refine go_bp (x := ?_) ?_ ?_); rotate_left 1; (first | ((with_reducible refine (m _).trans ?_); rfl) | rfl)) | ((with_reducible refine go_lp (x := ?_) (l := ?_) (c := ?_) ?_ ?_); rotate_left 3; (first | ((with_reducible refine (m _).trans ?_); rfl) | rfl)) | ((with_reducible refine go_pp (x := ?_) ?_ ?_); rotate_left 1; (first | ((with_reducible refine (m _).trans ?_); rfl) | rfl)) | ((with_reducible refine go_i (x := ?_) ?_ ?_); rotate_left 1; (first | ((with_reducible refine (m _).trans ?_); rfl) | rfl)) | ((with_reducible refine go_b (x := ?_) ?_ ?_); rotate_left 1; (first | ((with_reducible refine (m _).trans ?_); rfl) | rfl)) | ((with_reducible refine go_l (x := ?_) (l := ?_) (c := ?_) ?_ ?_); rotate_left 3; (first | ((with_reducible refine (m _).trans ?_); rfl) | rfl)) | ((with_reducible refine go_p (x := ?_) ?_ ?_); rotate_left 1; (first | ((with_reducible refine (m _).trans ?_); rfl) | rfl)) | ((with_reducible refine go_halst hHn ?_ ?_ ?_); rfl; rfl) | (with_reducible refine go_halN hHn ?_) | (with_reducible refine go_t d0 ?_) | (with_reducible refine go_f d0 ?_) | ((with_reducible refine go_t ?_ ?_); (show _ = true; rfl)) | ((with_reducible refine go_f ?_ ?_); (show _ = false; rfl)) | (with_reducible refine go_ne ?_) | (with_reducible refine go_eq ?_) | (with_reducible refine go_fad ?_) | (with_reducible refine go_nil ?_))
    rfl
  have d0 : (o.1 == 0) = false := by simpa using c0
  by_cases c1 : o.1 = 1
  · obtain ⟨H', e1, W, S, _⟩ := uBitsR_eq (k := k) (by omega) h1 o.2.2
    have d1 : (o.1 == 1) = true := by rw [c1]; rfl
    rw [show rO bs o s = rB bs o.2.2 s from by unfold rO; rw [if_neg c0, if_pos c1]]
    refine ⟨H', fun R K => ?_, W, b0.trans S⟩
    unfold L_readRef L_readRef_b
    repeat (first | (with_reducible refine (e1 _ _).trans ?_) | ((with_reducible refine go_ip (x := ?_) ?_ ?_); rotate_left 1; (first | ((with_reducible refine (m _).trans ?_); rfl) | rfl)) | ((with_reducible refine go_bp (x := ?_) ?_ ?_); rotate_left 1; (first | ((with_reducible refine (m _).trans ?_); rfl) | rfl)) | ((with_reducible refine go_lp (x := ?_) (l := ?_) (c := ?_) ?_ ?_); rotate_left 3; (first | ((with_reducible refine (m _).trans ?_); rfl) | rfl)) | ((with_reducible refine go_pp (x := ?_) ?_ ?_); rotate_left 1; (first | ((with_reducible refine (m _).trans ?_); rfl) | rfl)) | ((with_reducible refine go_i (x := ?_) ?_ ?_); rotate_left 1; (first | ((with_reducible refine (m _).trans ?_); rfl) | rfl)) | ((with_reducible refine go_b (x := ?_) ?_ ?_); rotate_left 1; (first | ((with_reducible refine (m _).trans ?_); rfl) | rfl)) | ((with_reducible refine go_l (x := ?_) (l := ?_) (c := ?_) ?_ ?_); rotate_left 3; (first | ((with_reducible refine (m _).trans ?_); rfl) | rfl)) | ((with_reducible refine go_p (x := ?_) ?_ ?_); rotate_left 1; (first | ((with_reducible refine (m _).trans ?_); rfl) | rfl)) | ((with_reducible refine go_halst hHn ?_ ?_ ?_); rfl; rfl) | (with_reducible refine go_halN hHn ?_) | (with_reducible refine go_t d0 ?_) | (with_reducible refine go_f d0 ?_) | (with_reducible refine go_t d1 ?_) | (with_reducible refine go_f d1 ?_) | ((with_reducible refine go_t ?_ ?_); (show _ = true; rfl)) | ((with_reducible refine go_f ?_ ?_); (show _ = false; rfl)) | (with_reducible refine go_ne ?_) | (with_reducible refine go_eq ?_) | (with_reducible refine go_fad ?_) | (with_reducible refine go_nil ?_))
    rfl
  have d1 : (o.1 == 1) = false := by simpa using c1
  by_cases c2 : o.1 = 2
  · obtain ⟨H', e1, W, S⟩ := uGammaR_eq (k := k) (by omega) h1
    have d2 : (o.1 == 2) = true := by rw [c2]; rfl
    rw [show rO bs o s = rG bs s from by unfold rO; rw [if_neg c0, if_neg c1, if_pos c2]]
    refine ⟨H', fun R K => ?_, W, b0.trans S⟩
    unfold L_readRef L_readRef_b
    repeat (first | (with_reducible refine (e1 _ _).trans ?_) | ((with_reducible refine go_ip (x := ?_) ?_ ?_); rotate_left 1; (first | ((with_reducible refine (m _).trans ?_); rfl) | rfl)) | ((with_reducible refine go_bp (x := ?_) ?_ ?_); rotate_left 1; (first | ((with_reducible refine (m _).trans ?_); rfl) | rfl)) | ((with_reducible refine go_lp (x := ?_) (l := ?_) (c := ?_) ?_ ?_); rotate_left 3; (first | ((with_reducible refine (m _).trans ?_); rfl) | rfl)) | ((with_reducible refine go_pp (x := ?_) ?_ ?_); rotate_left 1; (first | ((with_reducible refine (m _).trans ?_); rfl) | rfl)) | ((with_reducible refine go_i (x := ?_) ?_ ?_); rotate_left 1; (first | ((with_reducible refine (m _).trans ?_); rfl) | rfl)) | ((with_reducible refine go_b (x := ?_) ?_ ?_); rotate_left 1; (first | ((with_reducible refine (m _).trans ?_); rfl) | rfl)) | ((with_reducible refine go_l (x := ?_) (l := ?_) (c := ?_) ?_ ?_); rotate_left 3; (first | ((with_reducible refine (m _).trans ?_); rfl) | rfl)) | ((with_reducible refine go_p (x := ?_) ?_ ?_); rotate_left 1; (first | ((with_reducible refine (m _).trans ?_); rfl) | rfl)) | ((with_reducible refine go_halst hHn ?_ ?_ ?_); rfl; rfl) | (with_reducible refine go_halN hHn ?_) | (with_reducible refine go_t d0 ?_) | (with_reducible refine go_f d0 ?_) | (with_reducible refine go_t d1 ?_) | (with_reducible refine go_f d1 ?_) | (with_reducible refine go_t d2 ?_) | (with_reducible refine go_f d2 ?_) | ((with_reducible refine go_t ?_ ?_); (show _ = true; rfl)) | ((with_reducible refine go_f ?_ ?_); (show _ = false; rfl)) | (with_reducible refine go_ne ?_) | (with_reducible refine go_eq ?_) | (with_reducible refine go_fad ?_) | (with_reducible refine go_nil ?_))
    rfl
  have d2 : (o.1 == 2) = false := by simpa using c2
  by_cases c3 : o.1 = 3
  · obtain ⟨H', e1, W, S⟩ := uUnaryR_eq (k := k) (by omega) h1 o.2.2
    have d3 : (o.1 == 3) = true := by rw [c3]; rfl
    rw [show rO bs o s = rU bs o.2.2 s from by unfold rO; rw [if_neg c0, if_neg c1, if_neg c2, if_pos c3]]
    refine ⟨H', fun R K => ?_, W, b0.trans S⟩
    unfold L_readRef L_readRef_b
    repeat (first | (with_reducible refine (e1 _ _).trans ?_) | ((with_reducible refine go_ip (x := ?_) ?_ ?_); rotate_left 1; (first | ((with_reducible refine (m _).trans ?_); rfl) | rfl)) | ((with_reducible refine go_bp (x := ?_) ?_ ?_); rotate_left 1; (first | ((with_reducible refine (m _).trans ?_); rfl) | rfl)) | ((with_reducible refine go_lp (x := ?_) (l := ?_) (c := ?_) ?_ ?_); rotate_left 3; (first | ((with_reducible refine (m _).trans ?_); rfl) | rfl)) | ((with_reducible refine go_pp (x := ?_) ?_ ?_); rotate_left 1; (first | ((with_reducible refine (m _).trans ?_); rfl) | rfl)) | ((with_reducible refine go_i (x := ?_) ?_ ?_); rotate_left 1; (first | ((with_reducible refine (m _).trans ?_); rfl) | rfl)) | ((with_reducible refine go_b (x := ?_) ?_ ?_); rotate_left 1; (first | ((with_reducible refine (m _).trans ?_); rfl) | rfl)) | ((with_reducible refine go_l (x := ?_) (l := ?_) (c := ?_) ?_ ?_); rotate_left 3; (first | ((with_reducible refine (m _).trans ?_); rfl) | rfl)) | ((with_reducible refine go_p (x := ?_) ?_ ?_); rotate_left 1; (first | ((with_reducible refine (m _).trans ?_); rfl) | rfl)) | ((with_reducible refine go_halst hHn ?_ ?_ ?_); rfl; rfl) | (with_reducible refine go_halN hHn ?_) | (with_reducible refine go_t d0 ?_) | (with_reducible refine go_f d0 ?_) | (with_reducible refine go_t d1 ?_) | (with_reducible refine go_f d1 ?_) | (with_reducible refine go_t d2 ?_) | (with_reducible refine go_f d2 ?_) | (with_reducible refine go_t d3 ?_) | (with_reducible refine go_f d3 ?_) | ((with_reducible refine go_t ?_ ?_); (show _ = true; rfl)) | ((with_reducible refine go_f ?_ ?_); (show _ = false; rfl)) | (with_reducible refine go_ne ?_) | (with_reducible refine go_eq ?_) | (with_reducible refine go_fad ?_) | (with_reducible refine go_nil ?_))
    rfl
  have d3 : (o.1 == 3) = false := by simpa using c3
  by_cases c4 : o.1 = 4
  · obtain ⟨H', e1, W, S⟩ := uAlign_eq k h1
    have d4 : (o.1 == 4) = true := by rw [c4]; rfl
    rw [show rO bs o s = rA bs s from by unfold rO; rw [if_neg c0, if_neg c1, if_neg c2, if_neg c3, if_pos c4]]
    refine ⟨H', fun R K => ?_, W, b0.trans S⟩
    unfold L_readRef L_readRef_b
    repeat (first | (with_reducible refine (e1 _ _).trans ?_) | ((with_reducible refine go_ip (x := ?_) ?_ ?_); rotate_left 1; (first | ((with_reducible refine (m _).trans ?_); rfl) | rfl)) | ((with_reducible refine go_bp (x := ?_) ?_ ?_); rotate_left 1; (first | ((with_reducible refine (m _).trans ?_); rfl) | rfl)) | ((with_reducible refine go_lp (x := ?_) (l := ?_) (c := ?_) ?_ ?_); rotate_left 3; (first | ((with_reducible refine (m _).trans ?_); rfl) | rfl)) | ((with_reducible refine go_pp (x := ?_) ?_ ?_); rotate_left 1; (first | ((with_reducible refine (m _).trans ?_); rfl) | rfl)) | ((with_reducible refine go_i (x := ?_) ?_ ?_); rotate_left 1; (first | ((with_reducible refine (m _).trans ?_); rfl) | rfl)) | ((with_reducible refine go_b (x := ?_) ?_ ?_); rotate_left 1; (first | ((with_reducible refine (m _).trans ?_); rfl) | rfl)) | ((with_reducible refine go_l (x := ?_) (l := ?_) (c := ?_) ?_ ?_); rotate_left 3; (first | ((with_reducible refine (m _).trans ?_); rfl) | rfl)) | ((with_reducible refine go_p (x := ?_) ?_ ?_); rotate_left 1; (first | ((with_reducible refine (m _).trans ?_); rfl) | rfl)) | ((with_reducible refine go_halst hHn ?_ ?_ ?_); rfl; rfl) | (with_reducible refine go_halN hHn ?_) | (with_reducible refine go_t d0 ?_) | (with_reducible refine go_f d0 ?_) | (with_reducible refine go_t d1 ?_) | (with_reducible refine go_f d1 ?_) | (with_reducible refine go_t d2 ?_) | (with_reducible refine go_f d2 ?_) | (with_reducible refine go_t d3 ?_) | (with_reducible refine go_f d3 ?_) | (with_reducible refine go_t d4 ?_) | (with_reducible refine go_f d4 ?_) | ((with_reducible refine go_t ?_ ?_); (show _ = true; rfl)) | ((with_reducible refine go_f ?_ ?_); (show _ = false; rfl)) | (with_reducible refine go_ne ?_) | (with_reducible refine go_eq ?_) | (with_reducible refine go_fad ?_) | (with_reducible refine go_nil ?_))
    rfl
  have d4 : (o.1 == 4) = false := by simpa using c4
  rw [show rO bs o s = ((0, 0), s) from by unfold rO; rw [if_neg c0, if_neg c1, if_neg c2, if_neg c3, if_neg c4]]
  refine ⟨Hn, fun R K => ?_, h1, b0⟩
  unfold L_readRef L_readRef_b
  repeat (first | ((with_reducible refine go_ip (x := ?_) ?_ ?_); rotate_left 1; (first | ((with_reducible refine (m _).trans ?_); rfl) | rfl)) | ((with_reducible refine go_bp (x := ?_) ?_ ?_); rotate_left 1; (first | ((with_reducible refine (m _).trans ?_); rfl) | rfl)) | ((with_reducible refine go_lp (x := ?_) (l := ?_) (c := ?_) ?_ ?_); rotate_left 3; (first | ((with_reducible refine (m _).trans ?_); rfl) | rfl)) | ((with_reducible refine go_pp (x := ?_) ?_ ?_); rotate_left 1; (first | ((with_reducible refine (m _).trans ?_); rfl) | rfl)) | ((with_reducible refine go_i (x := ?_) ?_ ?_); rotate_left 1; (first | ((with_reducible refine (m _).trans ?_); rfl) | rfl)) | ((with_reducible refine go_b (x := ?_) ?_ ?_); rotate_left 1; (first | ((with_reducible refine (m _).trans ?_); rfl) | rfl)) | ((with_reducible refine go_l (x := ?_) (l := ?_) (c := ?_) ?_ ?_); rotate_left 3; (first | ((with_reducible refine (m _).trans ?_); rfl) | rfl)) | ((with_reducible refine go_p (x := ?_) ?_ ?_); rotate_left 1; (first | ((with_reducible refine (m _).trans ?_); rfl) | rfl)) | ((with_reducible refine go_halst hHn ?_ ?_ ?_); rfl; rfl) | (with_reducible refine go_halN hHn ?_) | (with_reducible refine go_t d0 ?_) | (with_reducible refine go_f d0 ?_) | (with_reducible refine go_t d1 ?_) | (with_reducible refine go_f d1 ?_) | (with_reducible refine go_t d2 ?_) | (with_reducible refine go_f d2 ?_) | (with_reducible refine go_t d3 ?_) | (with_reducible refine go_f d3 ?_) | (with_reducible refine go_t d4 ?_) | (with_reducible refine go_f d4 ?_) | ((with_reducible refine go_t ?_ ?_); (show _ = true; rfl)) | ((with_reducible refine go_f ?_ ?_); (show _ = false; rfl)) | (with_reducible refine go_ne ?_) | (with_reducible refine go_eq ?_) | (with_reducible refine go_fad ?_) | (with_reducible refine go_nil ?_))
  rfl
end Go.Proofs.Ytiapgcgpdndkiaa.Sh
