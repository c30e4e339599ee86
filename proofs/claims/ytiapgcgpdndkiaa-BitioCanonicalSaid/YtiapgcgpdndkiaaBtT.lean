/- Bitio: the program's reader: Align, a call of a reader. -/
import Derived.Test.YtiapgcgpdndkiaaBtS
set_option linter.unusedVariables false
set_option linter.unusedSimpArgs false
namespace Go.Proofs.Ytiapgcgpdndkiaa.Sh
open Go.Proofs.Ytiapgcgpdndkiaa.FW Go.IntWalk
theorem pow_le7 {l : Nat} (h : l ≤ 7) : 2 ^ l ≤ 2 ^ 7 := Nat.pow_le_pow_right (by omega) h
theorem p2pos (l : Nat) : 0 < 2 ^ l := Nat.two_pow_pos l
theorem pAlign_eq (k : Nat) {H : Heap} {p : Nat} {q : Option Addr} {bs : List Int} {s : Nat × Nat} (h : Rd H p q bs s) :
    ∃ H', (∀ (R : Type) (K : Int → Int → Heap → Option R), bitio_Reader_Align k (some ⟨p, 0, none⟩) H K = K (rA bs s).1.1 (rA bs s).1.2 H') ∧ Rd H' p q bs (rA bs s).2 ∧ But p H H' := by
  have o := rok_eq h
  obtain ⟨c, hO⟩ := h.c
  obtain ⟨a, l⟩ := s
  have hok := h.ok
  have ha := hok.a
  have hl7 := hok.l
  have hz := hok.z
  have hlen := h.by_.2
  simp only at ha hl7 hz
  have m : ∀ o, hcell H p o = [Value.bool true, .slice q bs.length c, .int .i64 ((a : Nat) : Int), .int .i64 ((l : Nat) : Int)][o]? := fun o => hO.sees.cell o
  by_cases h0 : a = 0
  · have d0 : (((a : Nat) : Int) == 0) = true := by rw [h0]; rfl
    rw [show rA bs (a, l) = ((0, 0), a, l) from if_pos h0]
    refine ⟨H, fun R K => ?_, h, .refl _ _⟩
    unfold bitio_Reader_Align bitio_Reader_Align_b
    repeat (first | (with_reducible refine (o _ _).trans ?_) | ((with_reducible refine go_ip (x := ?_) ?_ ?_); rotate_left 1; (first | ((with_reducible refine (m _).trans ?_); rfl) | rfl)) | ((with_reducible refine go_bp (x := ?_) ?_ ?_); rotate_left 1; (first | ((with_reducible refine (m _).trans ?_); rfl) | rfl)) | ((with_reducible refine go_lp (x := ?_) (l := ?_) (c := ?_) ?_ ?_); rotate_left 3; (first | ((with_reducible refine (m _).trans ?_); rfl) | rfl)) | ((with_reducible refine go_pp (x := ?_) ?_ ?_); rotate_left 1; (first | ((with_reducible refine (m _).trans ?_); rfl) | rfl)) | ((with_reducible refine go_i (x := ?_) ?_ ?_); rotate_left 1; (first | ((with_reducible refine (m _).trans ?_); rfl) | rfl)) | ((with_reducible refine go_b (x := ?_) ?_ ?_); rotate_left 1; (first | ((with_reducible refine (m _).trans ?_); rfl) | rfl)) | ((with_reducible refine go_l (x := ?_) (l := ?_) (c := ?_) ?_ ?_); rotate_left 3; (first | ((with_reducible refine (m _).trans ?_); rfl) | rfl)) | ((with_reducible refine go_p (x := ?_) ?_ ?_); rotate_left 1; (first | ((with_reducible refine (m _).trans ?_); rfl) | rfl)) | ((with_reducible refine go_halst rfl ?_ ?_ ?_); rfl; rfl) | (with_reducible refine go_halN rfl ?_) | (with_reducible refine go_t d0 ?_) | (with_reducible refine go_f d0 ?_) | ((with_reducible refine go_t ?_ ?_); (show _ = true; rfl)) | ((with_reducible refine go_f ?_ ?_); (show _ = false; rfl)) | (with_reducible refine go_ne ?_) | (with_reducible refine go_eq ?_) | (with_reducible refine go_fad ?_) | (with_reducible refine go_nil ?_))
    rfl
  have d0 : (((a : Nat) : Int) == 0) = false := by rw [beq_eq_false_iff_ne]; omega
  obtain ⟨z, e1, e2⟩ := byte_at' h.sh (i := a - 1) (by omega)
  have w1 : IntKind.wrap .i64 (((a : Nat) : Int) - 1) = ((a - 1 : Nat) : Int) := by rw [w64 (by omega) (by omega)]; omega
  have e1' : ∀ (R : Type) (K : Option Addr → Option R), hidx q bs.length (IntKind.wrap .i64 (((a : Nat) : Int) - 1)) 1 K = K z := by rw [w1]; exact e1
  have hp7 := pow_le7 hl7
  have hpp := p2pos l
  have s1 : ∀ (R : Type) (K : Int → Option R), hbin .shl .u8 1 (IntKind.wrap .u64 ((l : Nat) : Int)) K = K ((2 ^ l : Nat) : Int) := fun R K => by
    have := shl8 (a := 1) (n := l) (by omega) (by omega) K
    rwa [Nat.one_mul] at this
  obtain ⟨v, hv, hv2⟩ := h.by_.at (a - 1)
  have s2 : ∀ (R : Type) (K : Int → Option R), hbin .and .u8 (bs.getD (a - 1) 0) (IntKind.wrap .u8 (((2 ^ l : Nat) : Int) - 1)) K = K (((bs.getD (a - 1) 0).toNat % 2 ^ l : Nat) : Int) := fun R K => by
    rw [hv, u8_in _ ⟨by omega, by omega⟩, show ((2 ^ l : Nat) : Int) - 1 = ((2 ^ l - 1 : Nat) : Int) from by omega, and8 (by omega) (by omega), Nat.and_two_pow_sub_one_eq_mod, Int.toNat_natCast]
  by_cases h1 : (bs.getD (a - 1) 0).toNat % 2 ^ l = 0
  · have d1 : ((((bs.getD (a - 1) 0).toNat % 2 ^ l : Nat) : Int) != 0) = false := by rw [h1]; rfl
    -- the end: nothing is left
    have last : ∀ (H2 : Heap) (x : Nat), Owns H2 p (rcl q bs.length c x l) 0 → But p H H2 → x ≤ bs.length → ∃ H', (∀ (R : Type) (K : Int → Int → Heap → Option R), (hnil (some ⟨p, 0, none⟩) fun p202 => hfad 3 p202 fun p203 => hst1 H2 p203 (.int .i64 0) fun H204 => hnil (some ⟨p, 0, none⟩) fun p205 => hfad 2 p205 fun p206 => ldI .i64 H204 p206 fun n207 => K n207 0 H204) = K ((x : Nat) : Int) 0 H') ∧ Rd H' p q bs (x, 0) ∧ But p H H' := by
      intro H2 x hO2 b2 hx
      obtain ⟨H3, e3, O3, b3, n3⟩ := Rd.st3 hO2 0
      have m3 : ∀ o, hcell H3 p o = [Value.bool true, .slice q bs.length c, .int .i64 ((x : Nat) : Int), .int .i64 0][o]? := fun o => O3.sees.cell o
      refine ⟨H3, fun R K => ?_, ⟨⟨c, O3⟩, h.sh.but (b2.trans b3) h.ap, h.ap, ⟨hx, by simp only; omega, fun hh => by simp only at hh; omega⟩, h.by_⟩, b2.trans b3⟩
      have e3' : ∀ (R : Type) (K : Heap → Option R), hst1 H2 (some ⟨p, 3, none⟩) (.int .i64 0) K = K H3 := e3
      repeat (first | (with_reducible refine (e3' _ _).trans ?_) | ((with_reducible refine go_ip (x := ?_) ?_ ?_); rotate_left 1; (first | ((with_reducible refine (m3 _).trans ?_); rfl) | rfl)) | ((with_reducible refine go_bp (x := ?_) ?_ ?_); rotate_left 1; (first | ((with_reducible refine (m3 _).trans ?_); rfl) | rfl)) | ((with_reducible refine go_lp (x := ?_) (l := ?_) (c := ?_) ?_ ?_); rotate_left 3; (first | ((with_reducible refine (m3 _).trans ?_); rfl) | rfl)) | ((with_reducible refine go_pp (x := ?_) ?_ ?_); rotate_left 1; (first | ((with_reducible refine (m3 _).trans ?_); rfl) | rfl)) | ((with_reducible refine go_i (x := ?_) ?_ ?_); rotate_left 1; (first | ((with_reducible refine (m3 _).trans ?_); rfl) | rfl)) | ((with_reducible refine go_b (x := ?_) ?_ ?_); rotate_left 1; (first | ((with_reducible refine (m3 _).trans ?_); rfl) | rfl)) | ((with_reducible refine go_l (x := ?_) (l := ?_) (c := ?_) ?_ ?_); rotate_left 3; (first | ((with_reducible refine (m3 _).trans ?_); rfl) | rfl)) | ((with_reducible refine go_p (x := ?_) ?_ ?_); rotate_left 1; (first | ((with_reducible refine (m3 _).trans ?_); rfl) | rfl)) | ((with_reducible refine go_halst rfl ?_ ?_ ?_); rfl; rfl) | (with_reducible refine go_halN rfl ?_) | ((with_reducible refine go_t ?_ ?_); (show _ = true; rfl)) | ((with_reducible refine go_f ?_ ?_); (show _ = false; rfl)) | (with_reducible refine go_ne ?_) | (with_reducible refine go_eq ?_) | (with_reducible refine go_fad ?_) | (with_reducible refine go_nil ?_))
      rfl
    by_cases h2 : l = 0 ∧ bs.getD (a - 1) 0 = 255
    · have d2 : (((l : Nat) : Int) == 0) = true := by rw [h2.1]; rfl
      have d3 : (bs.getD (a - 1) 0 == 255) = true := by rw [h2.2]; rfl
      by_cases h3 : a = bs.length
      · have d4 : (((a : Nat) : Int) == ((bs.length : Nat) : Int)) = true := by rw [h3]; exact beq_self_eq_true _
        have er : rA bs (a, l) = ((0, 7), a, l) := by unfold rA; rw [if_neg h0, if_neg (fun hh => hh h1), if_pos h2, if_pos h3]
        rw [er]
        refine ⟨H, fun R K => ?_, h, .refl _ _⟩
        unfold bitio_Reader_Align bitio_Reader_Align_b bitio_Reader_Align_p0 bitio_Reader_Align_p0_b bitio_Reader_Align_p1 bitio_Reader_Align_p1_b
        repeat (first | (with_reducible refine (o _ _).trans ?_) | (with_reducible refine (e1' _ _).trans ?_) | (with_reducible refine (e2 _ _).trans ?_) | (with_reducible refine (s1 _ _).trans ?_) | (with_reducible refine (s2 _ _).trans ?_) | ((with_reducible refine go_ip (x := ?_) ?_ ?_); rotate_left 1; (first | ((with_reducible refine (m _).trans ?_); rfl) | rfl)) | ((with_reducible refine go_bp (x := ?_) ?_ ?_); rotate_left 1; (first | ((with_reducible refine (m _).trans ?_); rfl) | rfl)) | ((with_reducible refine go_lp (x := ?_) (l := ?_) (c := ?_) ?_ ?_); rotate_left 3; (first | ((with_reducible refine (m _).trans ?_); rfl) | rfl)) | ((with_reducible refine go_pp (x := ?_) ?_ ?_); rotate_left 1; (first | ((with_reducible refine (m _).trans ?_); rfl) | rfl)) | ((with_reducible refine go_i (x := ?_) ?_ ?_); rotate_left 1; (first | ((with_reducible refine (m _).trans ?_); rfl) | rfl)) | ((with_reducible refine go_b (x := ?_) ?_ ?_); rotate_left 1; (first | ((with_reducible refine (m _).trans ?_); rfl) | rfl)) | ((with_reducible refine go_l (x := ?_) (l := ?_) (c := ?_) ?_ ?_); rotate_left 3; (first | ((with_reducible refine (m _).trans ?_); rfl) | rfl)) | ((with_reducible refine go_p (x := ?_) ?_ ?_); rotate_left 1; (first | ((with_reducible refine (m _).trans ?_); rfl) | rfl)) | ((with_reducible refine go_halst rfl ?_ ?_ ?_); rfl; rfl) | (with_reducible refine go_halN rfl ?_) | (with_reducible refine go_t d0 ?_) | (with_reducible refine go_f d0 ?_) | (with_reducible refine go_t d1 ?_) | (with_reducible refine go_f d1 ?_) | (with_reducible refine go_t d2 ?_) | (with_reducible refine go_f d2 ?_) | (with_reducible refine go_t d3 ?_) | (with_reducible refine go_f d3 ?_) | (with_reducible refine go_t d4 ?_) | (with_reducible refine go_f d4 ?_) | ((with_reducible refine go_t ?_ ?_); (show _ = true; rfl)) | ((with_reducible refine go_f ?_ ?_); (show _ = false; rfl)) | (with_reducible refine go_ne ?_) | (with_reducible refine go_eq ?_) | (with_reducible refine go_fad ?_) | (with_reducible refine go_nil ?_))
        rfl
      · have d4 : (((a : Nat) : Int) == ((bs.length : Nat) : Int)) = false := by rw [beq_eq_false_iff_ne]; omega
        obtain ⟨y, e3, e4⟩ := byte_at' h.sh (i := a) (by omega)
        by_cases h4 : bs.getD a 0 = 0
        · have d5 : (bs.getD a 0 != 0) = false := by rw [h4]; rfl
          have er : rA bs (a, l) = ((((a + 1 : Nat) : Int), 0), a + 1, 0) := by unfold rA; rw [if_neg h0, if_neg (fun hh => hh h1), if_pos h2, if_neg h3, if_neg (fun hh => hh h4)]
          obtain ⟨H1, e5, O1, b1, n1⟩ := Rd.st2 hO (a + 1)
          have w2 : IntKind.wrap .i64 (((a : Nat) : Int) + 1) = ((a + 1 : Nat) : Int) := by rw [w64 (by omega) (by omega)]; omega
          have e5' : ∀ (R : Type) (K : Heap → Option R), hst1 H (some ⟨p, 2, none⟩) (.int .i64 (IntKind.wrap .i64 (((a : Nat) : Int) + 1))) K = K H1 := by rw [w2]; exact e5
          obtain ⟨H2, e6, R2, b2⟩ := last H1 (a + 1) O1 b1 (by omega)
          rw [er]
          refine ⟨H2, fun R K => ?_, R2, b2⟩
          unfold bitio_Reader_Align bitio_Reader_Align_b bitio_Reader_Align_p0 bitio_Reader_Align_p0_b bitio_Reader_Align_p1 bitio_Reader_Align_p1_b
          repeat (first | (with_reducible refine (o _ _).trans ?_) | (with_reducible refine (e1' _ _).trans ?_) | (with_reducible refine (e2 _ _).trans ?_) | (with_reducible refine (s1 _ _).trans ?_) | (with_reducible refine (s2 _ _).trans ?_) | (with_reducible refine (e3 _ _).trans ?_) | (with_reducible refine (e4 _ _).trans ?_) | (with_reducible refine (e5' _ _).trans ?_) | ((with_reducible refine go_ip (x := ?_) ?_ ?_); rotate_left 1; (first | ((with_reducible refine (m _).trans ?_); rfl) | rfl)) | ((with_reducible refine go_bp (x := ?_) ?_ ?_); rotate_left 1; (first | ((with_reducible refine (m _).trans ?_); rfl) | rfl)) | ((with_reducible refine go_lp (x := ?_) (l := ?_) (c := ?_) ?_ ?_); rotate_left 3; (first | ((with_reducible refine (m _).trans ?_); rfl) | rfl)) | ((with_reducible refine go_pp (x := ?_) ?_ ?_); rotate_left 1; (first | ((with_reducible refine (m _).trans ?_); rfl) | rfl)) | ((with_reducible refine go_i (x := ?_) ?_ ?_); rotate_left 1; (first | ((with_reducible refine (m _).trans ?_); rfl) | rfl)) | ((with_reducible refine go_b (x := ?_) ?_ ?_); rotate_left 1; (first | ((with_reducible refine (m _).trans ?_); rfl) | rfl)) | ((with_reducible refine go_l (x := ?_) (l := ?_) (c := ?_) ?_ ?_); rotate_left 3; (first | ((with_reducible refine (m _).trans ?_); rfl) | rfl)) | ((with_reducible refine go_p (x := ?_) ?_ ?_); rotate_left 1; (first | ((with_reducible refine (m _).trans ?_); rfl) | rfl)) | ((with_reducible refine go_halst rfl ?_ ?_ ?_); rfl; rfl) | (with_reducible refine go_halN rfl ?_) | (with_reducible refine go_t d0 ?_) | (with_reducible refine go_f d0 ?_) | (with_reducible refine go_t d1 ?_) | (with_reducible refine go_f d1 ?_) | (with_reducible refine go_t d2 ?_) | (with_reducible refine go_f d2 ?_) | (with_reducible refine go_t d3 ?_) | (with_reducible refine go_f d3 ?_) | (with_reducible refine go_t d4 ?_) | (with_reducible refine go_f d4 ?_) | (with_reducible refine go_t d5 ?_) | (with_reducible refine go_f d5 ?_) | ((with_reducible refine go_t ?_ ?_); (show _ = true; rfl)) | ((with_reducible refine go_f ?_ ?_); (show _ = false; rfl)) | (with_reducible refine go_ne ?_) | (with_reducible refine go_eq ?_) | (with_reducible refine go_fad ?_) | (with_reducible refine go_nil ?_))
          exact e6 R K
        · have d5 : (bs.getD a 0 != 0) = true := by simpa using h4
          have er : rA bs (a, l) = ((0, 8), a, l) := by unfold rA; rw [if_neg h0, if_neg (fun hh => hh h1), if_pos h2, if_neg h3, if_pos h4]
          rw [er]
          refine ⟨H, fun R K => ?_, h, .refl _ _⟩
          unfold bitio_Reader_Align bitio_Reader_Align_b bitio_Reader_Align_p0 bitio_Reader_Align_p0_b bitio_Reader_Align_p1 bitio_Reader_Align_p1_b
          repeat (first | (with_reducible refine (o _ _).trans ?_) | (with_reducible refine (e1' _ _).trans ?_) | (with_reducible refine (e2 _ _).trans ?_) | (with_reducible refine (s1 _ _).trans ?_) | (with_reducible refine (s2 _ _).trans ?_) | (with_reducible refine (e3 _ _).trans ?_) | (with_reducible refine (e4 _ _).trans ?_) | ((with_reducible refine go_ip (x := ?_) ?_ ?_); rotate_left 1; (first | ((with_reducible refine (m _).trans ?_); rfl) | rfl)) | ((with_reducible refine go_bp (x := ?_) ?_ ?_); rotate_left 1; (first | ((with_reducible refine (m _).trans ?_); rfl) | rfl)) | ((with_reducible refine go_lp (x := ?_) (l := ?_) (c := ?_) ?_ ?_); rotate_left 3; (first | ((with_reducible refine (m _).trans ?_); rfl) | rfl)) | ((with_reducible refine go_pp (x := ?_) ?_ ?_); rotate_left 1; (first | ((with_reducible refine (m _).trans ?_); rfl) | rfl)) | ((with_reducible refine go_i (x := ?_) ?_ ?_); rotate_left 1; (first | ((with_reducible refine (m _).trans ?_); rfl) | rfl)) | ((with_reducible refine go_b (x := ?_) ?_ ?_); rotate_left 1; (first | ((with_reducible refine (m _).trans ?_); rfl) | rfl)) | ((with_reducible refine go_l (x := ?_) (l := ?_) (c := ?_) ?_ ?_); rotate_left 3; (first | ((with_reducible refine (m _).trans ?_); rfl) | rfl)) | ((with_reducible refine go_p (x := ?_) ?_ ?_); rotate_left 1; (first | ((with_reducible refine (m _).trans ?_); rfl) | rfl)) | ((with_reducible refine go_halst rfl ?_ ?_ ?_); rfl; rfl) | (with_reducible refine go_halN rfl ?_) | (with_reducible refine go_t d0 ?_) | (with_reducible refine go_f d0 ?_) | (with_reducible refine go_t d1 ?_) | (with_reducible refine go_f d1 ?_) | (with_reducible refine go_t d2 ?_) | (with_reducible refine go_f d2 ?_) | (with_reducible refine go_t d3 ?_) | (with_reducible refine go_f d3 ?_) | (with_reducible refine go_t d4 ?_) | (with_reducible refine go_f d4 ?_) | (with_reducible refine go_t d5 ?_) | (with_reducible refine go_f d5 ?_) | ((with_reducible refine go_t ?_ ?_); (show _ = true; rfl)) | ((with_reducible refine go_f ?_ ?_); (show _ = false; rfl)) | (with_reducible refine go_ne ?_) | (with_reducible refine go_eq ?_) | (with_reducible refine go_fad ?_) | (with_reducible refine go_nil ?_))
          rfl
    · have er : rA bs (a, l) = ((((a : Nat) : Int), 0), a, 0) := by unfold rA; rw [if_neg h0, if_neg (fun hh => hh h1), if_neg h2]
      obtain ⟨H2, e6, R2, b2⟩ := last H a hO (.refl _ _) ha
      rw [er]
      refine ⟨H2, fun R K => ?_, R2, b2⟩
      by_cases h3 : l = 0
      · have d2 : (((l : Nat) : Int) == 0) = true := by rw [h3]; rfl
        have d3 : (bs.getD (a - 1) 0 == 255) = false := by rw [beq_eq_false_iff_ne]; exact fun hh => h2 ⟨h3, hh⟩
        unfold bitio_Reader_Align bitio_Reader_Align_b bitio_Reader_Align_p0 bitio_Reader_Align_p0_b bitio_Reader_Align_p1 bitio_Reader_Align_p1_b
        refine (o _ _).trans (go_f rfl (go_nil (go_fad (go_i (m 2) (go_f d0 ?_)))))
        refine go_nil (go_fad (go_l (m 1) (go_nil (go_fad (go_i (m 2) ((e1' _ _).trans ((e2 _ _).trans ?_)))))))
        refine go_nil (go_fad (go_i (m 3) ((s1 _ _).trans ((s2 _ _).trans (go_f d1 ?_)))))
        refine go_nil (go_fad (go_i (m 3) (go_t d2 (go_f d3 ?_))))
        exact e6 R K
      · have d2 : (((l : Nat) : Int) == 0) = false := by rw [beq_eq_false_iff_ne]; omega
        unfold bitio_Reader_Align bitio_Reader_Align_b bitio_Reader_Align_p0 bitio_Reader_Align_p0_b bitio_Reader_Align_p1 bitio_Reader_Align_p1_b
        refine (o _ _).trans (go_f rfl (go_nil (go_fad (go_i (m 2) (go_f d0 ?_)))))
        refine go_nil (go_fad (go_l (m 1) (go_nil (go_fad (go_i (m 2) ((e1' _ _).trans ((e2 _ _).trans ?_)))))))
        refine go_nil (go_fad (go_i (m 3) ((s1 _ _).trans ((s2 _ _).trans (go_f d1 ?_)))))
        refine go_nil (go_fad (go_i (m 3) (go_f d2 (go_f rfl ?_))))
        exact e6 R K
  · have d1 : ((((bs.getD (a - 1) 0).toNat % 2 ^ l : Nat) : Int) != 0) = true := by
      rw [bne_iff_ne]; exact fun hh => h1 (by exact_mod_cast hh)
    have er : rA bs (a, l) = ((0, 8), a, l) := by unfold rA; rw [if_neg h0, if_pos h1]
    rw [er]
    refine ⟨H, fun R K => ?_, h, .refl _ _⟩
    unfold bitio_Reader_Align bitio_Reader_Align_b
    repeat (first | (with_reducible refine (o _ _).trans ?_) | (with_reducible refine (e1' _ _).trans ?_) | (with_reducible refine (e2 _ _).trans ?_) | (with_reducible refine (s1 _ _).trans ?_) | (with_reducible refine (s2 _ _).trans ?_) | ((with_reducible refine go_ip (x := ?_) ?_ ?_); rotate_left 1; (first | ((with_reducible refine (m _).trans ?_); rfl) | rfl)) | ((with_reducible refine go_bp (x := ?_) ?_ ?_); rotate_left 1; (first | ((with_reducible refine (m _).trans ?_); rfl) | rfl)) | ((with_reducible refine go_lp (x := ?_) (l := ?_) (c := ?_) ?_ ?_); rotate_left 3; (first | ((with_reducible refine (m _).trans ?_); rfl) | rfl)) | ((with_reducible refine go_pp (x := ?_) ?_ ?_); rotate_left 1; (first | ((with_reducible refine (m _).trans ?_); rfl) | rfl)) | ((with_reducible refine go_i (x := ?_) ?_ ?_); rotate_left 1; (first | ((with_reducible refine (m _).trans ?_); rfl) | rfl)) | ((with_reducible refine go_b (x := ?_) ?_ ?_); rotate_left 1; (first | ((with_reducible refine (m _).trans ?_); rfl) | rfl)) | ((with_reducible refine go_l (x := ?_) (l := ?_) (c := ?_) ?_ ?_); rotate_left 3; (first | ((with_reducible refine (m _).trans ?_); rfl) | rfl)) | ((with_reducible refine go_p (x := ?_) ?_ ?_); rotate_left 1; (first | ((with_reducible refine (m _).trans ?_); rfl) | rfl)) | ((with_reducible refine go_halst rfl ?_ ?_ ?_); rfl; rfl) | (with_reducible refine go_halN rfl ?_) | (with_reducible refine go_t d0 ?_) | (with_reducible refine go_f d0 ?_) | (with_reducible refine go_t d1 ?_) | (with_reducible refine go_f d1 ?_) | ((with_reducible refine go_t ?_ ?_); (show _ = true; rfl)) | ((with_reducible refine go_f ?_ ?_); (show _ = false; rfl)) | (with_reducible refine go_ne ?_) | (with_reducible refine go_eq ?_) | (with_reducible refine go_fad ?_) | (with_reducible refine go_nil ?_))
    rfl
/-- A call of a reader. -/
theorem read_eq {k : Nat} (hk : 100000 < k) {H : Heap} {p : Nat} {q : Option Addr} {bs : List Int} {s : Nat × Nat} (h : Rd H p q bs s) (o : Int × Int × Int) :
    ∃ H', (∀ (R : Type) (K : Int → Int → Heap → Option R), L_read k (some ⟨p, 0, none⟩) o.1 o.2.1 o.2.2 H K = K (rO bs o s).1.1 (rO bs o s).1.2 H') ∧ Rd H' p q bs (rO bs o s).2 ∧ But p H H' := by
  obtain ⟨Hn, hHn⟩ : ∃ Hn, Hn = H ++ [some ⟨[.int .i64 o.1, .int .i64 o.2.1, .int .i64 o.2.2], false, 0⟩] := ⟨_, rfl⟩
  have o1 : Old H.length H Hn := hHn ▸ Old.app _ _
  have b0 : But p H Hn := .of_old o1
  have h1 := h.keep o1
  have m : ∀ i, hcell Hn H.length i = [Value.int .i64 o.1, .int .i64 o.2.1, .int .i64 o.2.2][i]? := fun i => by rw [hHn]; exact hcell_new _ _ _
  by_cases c0 : o.1 = 0
  · obtain ⟨H', e1, W, S⟩ := pGet_eq k h1
    have d0 : (o.1 == 0) = true := by rw [c0]; rfl
    rw [show rO bs o s = rget bs s from if_pos c0]
    refine ⟨H', fun R K => ?_, W, b0.trans S⟩
    unfold L_read L_read_b
    repeat (first | (with_reducible refine (e1 _ _).trans ?_) | ((with_reducible refine go_ip (x := ?_) ?_ ?_); rotate_left 1; (first | ((with_reducible refine (m _).trans ?_); rfl) | rfl)) | ((with_reducible refine go_bp (x := ?_) ?_ ?_); rotate_left 1; (first | ((with_reducible refine (m _).trans ?_); rfl) | rfl)) | ((with_reducible refine go_lp (x := ?_) (l := ?_) (c := ?_) ?_ ?_); rotate_left 3; (first | ((with_reducible refine (m _).trans ?_); rfl) | rfl)) | ((with_reducible refine go_pp (x := ?_) ?_ ?_); rotate_left 1; (first | ((with_reducible refine (m _).trans ?_); rfl) | rfl)) | ((with_reducible refine go_i (x := ?_) ?_ ?_); rotate_left 1; (first | ((with_reducible refine (m _).trans ?_); rfl) | rfl)) | ((with_reducible refine go_b (x := ?_) ?_ ?_); rotate_left 1; (first | ((with_reducible refine (m _).trans ?_); rfl) | rfl)) | ((with_reducible refine go_l (x := ?_) (l := ?_) (c := ?_) ?_ ?_); rotate_left 3; (first | ((with_reducible refine (m _).trans ?_); rfl) | rfl)) | ((with_reducible refine go_p (x := ?_) ?_ ?_); rotate_left 1; (first | ((with_reducible refine (m _).trans ?_); rfl) | rfl)) | ((with_reducible refine go_halst hHn ?_ ?_ ?_); rfl; rfl) | (with_reducible refine go_halN hHn ?_) | (with_reducible refine go_t d0 ?_) | (with_reducible refine go_f d0 ?_) | ((with_reducible refine go_t ?_ ?_); (show _ = true; rfl)) | ((with_reducible refine go_f ?_ ?_); (show _ = false; rfl)) | (with_reducible refine go_ne ?_) | (with_reducible refine go_eq ?_) | (with_reducible refine go_fad ?_) | (with_reducible refine go_nil ?_))
    rfl
  have d0 : (o.1 == 0) = false := by simpa using c0
  by_cases c1 : o.1 = 1
  · obtain ⟨H', e1, W, S⟩ := pBitsR_eq (k := k) (by omega) h1 o.2.2
    have d1 : (o.1 == 1) = true := by rw [c1]; rfl
    rw [show rO bs o s = rB bs o.2.2 s from by unfold rO; rw [if_neg c0, if_pos c1]]
    refine ⟨H', fun R K => ?_, W, b0.trans S⟩
    unfold L_read L_read_b
    repeat (first | (with_reducible refine (e1 _ _).trans ?_) | ((with_reducible refine go_ip (x := ?_) ?_ ?_); rotate_left 1; (first | ((with_reducible refine (m _).trans ?_); rfl) | rfl)) | ((with_reducible refine go_bp (x := ?_) ?_ ?_); rotate_left 1; (first | ((with_reducible refine (m _).trans ?_); rfl) | rfl)) | ((with_reducible refine go_lp (x := ?_) (l := ?_) (c := ?_) ?_ ?_); rotate_left 3; (first | ((with_reducible refine (m _).trans ?_); rfl) | rfl)) | ((with_reducible refine go_pp (x := ?_) ?_ ?_); rotate_left 1; (first | ((with_reducible refine (m _).trans ?_); rfl) | rfl)) | ((with_reducible refine go_i (x := ?_) ?_ ?_); rotate_left 1; (first | ((with_reducible refine (m _).trans ?_); rfl) | rfl)) | ((with_reducible refine go_b (x := ?_) ?_ ?_); rotate_left 1; (first | ((with_reducible refine (m _).trans ?_); rfl) | rfl)) | ((with_reducible refine go_l (x := ?_) (l := ?_) (c := ?_) ?_ ?_); rotate_left 3; (first | ((with_reducible refine (m _).trans ?_); rfl) | rfl)) | ((with_reducible refine go_p (x := ?_) ?_ ?_); rotate_left 1; (first | ((with_reducible refine (m _).trans ?_); rfl) | rfl)) | ((with_reducible refine go_halst hHn ?_ ?_ ?_); rfl; rfl) | (with_reducible refine go_halN hHn ?_) | (with_reducible refine go_t d0 ?_) | (with_reducible refine go_f d0 ?_) | (with_reducible refine go_t d1 ?_) | (with_reducible refine go_f d1 ?_) | ((with_reducible refine go_t ?_ ?_); (show _ = true; rfl)) | ((with_reducible refine go_f ?_ ?_); (show _ = false; rfl)) | (with_reducible refine go_ne ?_) | (with_reducible refine go_eq ?_) | (with_reducible refine go_fad ?_) | (with_reducible refine go_nil ?_))
    rfl
  have d1 : (o.1 == 1) = false := by simpa using c1
  by_cases c2 : o.1 = 2
  · obtain ⟨H', e1, W, S⟩ := pGammaR_eq hk h1
    have d2 : (o.1 == 2) = true := by rw [c2]; rfl
    rw [show rO bs o s = rG bs s from by unfold rO; rw [if_neg c0, if_neg c1, if_pos c2]]
    refine ⟨H', fun R K => ?_, W, b0.trans S⟩
    unfold L_read L_read_b
    repeat (first | (with_reducible refine (e1 _ _).trans ?_) | ((with_reducible refine go_ip (x := ?_) ?_ ?_); rotate_left 1; (first | ((with_reducible refine (m _).trans ?_); rfl) | rfl)) | ((with_reducible refine go_bp (x := ?_) ?_ ?_); rotate_left 1; (first | ((with_reducible refine (m _).trans ?_); rfl) | rfl)) | ((with_reducible refine go_lp (x := ?_) (l := ?_) (c := ?_) ?_ ?_); rotate_left 3; (first | ((with_reducible refine (m _).trans ?_); rfl) | rfl)) | ((with_reducible refine go_pp (x := ?_) ?_ ?_); rotate_left 1; (first | ((with_reducible refine (m _).trans ?_); rfl) | rfl)) | ((with_reducible refine go_i (x := ?_) ?_ ?_); rotate_left 1; (first | ((with_reducible refine (m _).trans ?_); rfl) | rfl)) | ((with_reducible refine go_b (x := ?_) ?_ ?_); rotate_left 1; (first | ((with_reducible refine (m _).trans ?_); rfl) | rfl)) | ((with_reducible refine go_l (x := ?_) (l := ?_) (c := ?_) ?_ ?_); rotate_left 3; (first | ((with_reducible refine (m _).trans ?_); rfl) | rfl)) | ((with_reducible refine go_p (x := ?_) ?_ ?_); rotate_left 1; (first | ((with_reducible refine (m _).trans ?_); rfl) | rfl)) | ((with_reducible refine go_halst hHn ?_ ?_ ?_); rfl; rfl) | (with_reducible refine go_halN hHn ?_) | (with_reducible refine go_t d0 ?_) | (with_reducible refine go_f d0 ?_) | (with_reducible refine go_t d1 ?_) | (with_reducible refine go_f d1 ?_) | (with_reducible refine go_t d2 ?_) | (with_reducible refine go_f d2 ?_) | ((with_reducible refine go_t ?_ ?_); (show _ = true; rfl)) | ((with_reducible refine go_f ?_ ?_); (show _ = false; rfl)) | (with_reducible refine go_ne ?_) | (with_reducible refine go_eq ?_) | (with_reducible refine go_fad ?_) | (with_reducible refine go_nil ?_))
    rfl
  have d2 : (o.1 == 2) = false := by simpa using c2
  by_cases c3 : o.1 = 3
  · obtain ⟨H', e1, W, S⟩ := pUnaryR_eq hk h1 o.2.2
    have d3 : (o.1 == 3) = true := by rw [c3]; rfl
    rw [show rO bs o s = rU bs o.2.2 s from by unfold rO; rw [if_neg c0, if_neg c1, if_neg c2, if_pos c3]]
    refine ⟨H', fun R K => ?_, W, b0.trans S⟩
    unfold L_read L_read_b
    repeat (first | (with_reducible refine (e1 _ _).trans ?_) | ((with_reducible refine go_ip (x := ?_) ?_ ?_); rotate_left 1; (first | ((with_reducible refine (m _).trans ?_); rfl) | rfl)) | ((with_reducible refine go_bp (x := ?_) ?_ ?_); rotate_left 1; (first | ((with_reducible refine (m _).trans ?_); rfl) | rfl)) | ((with_reducible refine go_lp (x := ?_) (l := ?_) (c := ?_) ?_ ?_); rotate_left 3; (first | ((with_reducible refine (m _).trans ?_); rfl) | rfl)) | ((with_reducible refine go_pp (x := ?_) ?_ ?_); rotate_left 1; (first | ((with_reducible refine (m _).trans ?_); rfl) | rfl)) | ((with_reducible refine go_i (x := ?_) ?_ ?_); rotate_left 1; (first | ((with_reducible refine (m _).trans ?_); rfl) | rfl)) | ((with_reducible refine go_b (x := ?_) ?_ ?_); rotate_left 1; (first | ((with_reducible refine (m _).trans ?_); rfl) | rfl)) | ((with_reducible refine go_l (x := ?_) (l := ?_) (c := ?_) ?_ ?_); rotate_left 3; (first | ((with_reducible refine (m _).trans ?_); rfl) | rfl)) | ((with_reducible refine go_p (x := ?_) ?_ ?_); rotate_left 1; (first | ((with_reducible refine (m _).trans ?_); rfl) | rfl)) | ((with_reducible refine go_halst hHn ?_ ?_ ?_); rfl; rfl) | (with_reducible refine go_halN hHn ?_) | (with_reducible refine go_t d0 ?_) | (with_reducible refine go_f d0 ?_) | (with_reducible refine go_t d1 ?_) | (with_reducible refine go_f d1 ?_) | (with_reducible refine go_t d2 ?_) | (with_reducible refine go_f d2 ?_) | (with_reducible refine go_t d3 ?_) | (with_reducible refine go_f d3 ?_) | ((with_reducible refine go_t ?_ ?_); (show _ = true; rfl)) | ((with_reducible refine go_f ?_ ?_); (show _ = false; rfl)) | (with_reducible refine go_ne ?_) | (with_reducible refine go_eq ?_) | (with_reducible refine go_fad ?_) | (with_reducible refine go_nil ?_))
    rfl
  have d3 : (o.1 == 3) = false := by simpa using c3
  by_cases c4 : o.1 = 4
  · obtain ⟨H', e1, W, S⟩ := pAlign_eq k h1
    have d4 : (o.1 == 4) = true := by rw [c4]; rfl
    rw [show rO bs o s = rA bs s from by unfold rO; rw [if_neg c0, if_neg c1, if_neg c2, if_neg c3, if_pos c4]]
    refine ⟨H', fun R K => ?_, W, b0.trans S⟩
    unfold L_read L_read_b
    repeat (first | (with_reducible refine (e1 _ _).trans ?_) | ((with_reducible refine go_ip (x := ?_) ?_ ?_); rotate_left 1; (first | ((with_reducible refine (m _).trans ?_); rfl) | rfl)) | ((with_reducible refine go_bp (x := ?_) ?_ ?_); rotate_left 1; (first | ((with_reducible refine (m _).trans ?_); rfl) | rfl)) | ((with_reducible refine go_lp (x := ?_) (l := ?_) (c := ?_) ?_ ?_); rotate_left 3; (first | ((with_reducible refine (m _).trans ?_); rfl) | rfl)) | ((with_reducible refine go_pp (x := ?_) ?_ ?_); rotate_left 1; (first | ((with_reducible refine (m _).trans ?_); rfl) | rfl)) | ((with_reducible refine go_i (x := ?_) ?_ ?_); rotate_left 1; (first | ((with_reducible refine (m _).trans ?_); rfl) | rfl)) | ((with_reducible refine go_b (x := ?_) ?_ ?_); rotate_left 1; (first | ((with_reducible refine (m _).trans ?_); rfl) | rfl)) | ((with_reducible refine go_l (x := ?_) (l := ?_) (c := ?_) ?_ ?_); rotate_left 3; (first | ((with_reducible refine (m _).trans ?_); rfl) | rfl)) | ((with_reducible refine go_p (x := ?_) ?_ ?_); rotate_left 1; (first | ((with_reducible refine (m _).trans ?_); rfl) | rfl)) | ((with_reducible refine go_halst hHn ?_ ?_ ?_); rfl; rfl) | (with_reducible refine go_halN hHn ?_) | (with_reducible refine go_t d0 ?_) | (with_reducible refine go_f d0 ?_) | (with_reducible refine go_t d1 ?_) | (with_reducible refine go_f d1 ?_) | (with_reducible refine go_t d2 ?_) | (with_reducible refine go_f d2 ?_) | (with_reducible refine go_t d3 ?_) | (with_reducible refine go_f d3 ?_) | (with_reducible refine go_t d4 ?_) | (with_reducible refine go_f d4 ?_) | ((with_reducible refine go_t ?_ ?_); (show _ = true; rfl)) | ((with_reducible refine go_f ?_ ?_); (show _ = false; rfl)) | (with_reducible refine go_ne ?_) | (with_reducible refine go_eq ?_) | (with_reducible refine go_fad ?_) | (with_reducible refine go_nil ?_))
    rfl
  have d4 : (o.1 == 4) = false := by simpa using c4
  rw [show rO bs o s = ((0, 0), s) from by unfold rO; rw [if_neg c0, if_neg c1, if_neg c2, if_neg c3, if_neg c4]]
  refine ⟨Hn, fun R K => ?_, h1, b0⟩
  unfold L_read L_read_b
  repeat (first | ((with_reducible refine go_ip (x := ?_) ?_ ?_); rotate_left 1; (first | ((with_reducible refine (m _).trans ?_); rfl) | rfl)) | ((with_reducible refine go_bp (x := ?_) ?_ ?_); rotate_left 1; (first | ((with_reducible refine (m _).trans ?_); rfl) | rfl)) | ((with_reducible refine go_lp (x := ?_) (l := ?_) (c := ?_) ?_ ?_); rotate_left 3; (first | ((with_reducible refine (m _).trans ?_); rfl) | rfl)) | ((with_reducible refine go_pp (x := ?_) ?_ ?_); rotate_left 1; (first | ((with_reducible refine (m _).trans ?_); rfl) | rfl)) | ((with_reducible refine go_i (x := ?_) ?_ ?_); rotate_left 1; (first | ((with_reducible refine (m _).trans ?_); rfl) | rfl)) | ((with_reducible refine go_b (x := ?_) ?_ ?_); rotate_left 1; (first | ((with_reducible refine (m _).trans ?_); rfl) | rfl)) | ((with_reducible refine go_l (x := ?_) (l := ?_) (c := ?_) ?_ ?_); rotate_left 3; (first | ((with_reducible refine (m _).trans ?_); rfl) | rfl)) | ((with_reducible refine go_p (x := ?_) ?_ ?_); rotate_left 1; (first | ((with_reducible refine (m _).trans ?_); rfl) | rfl)) | ((with_reducible refine go_halst hHn ?_ ?_ ?_); rfl; rfl) | (with_reducible refine go_halN hHn ?_) | (with_reducible refine go_t d0 ?_) | (with_reducible refine go_f d0 ?_) | (with_reducible refine go_t d1 ?_) | (with_reducible refine go_f d1 ?_) | (with_reducible refine go_t d2 ?_) | (with_reducible refine go_f d2 ?_) | (with_reducible refine go_t d3 ?_) | (with_reducible refine go_f d3 ?_) | (with_reducible refine go_t d4 ?_) | (with_reducible refine go_f d4 ?_) | ((with_reducible refine go_t ?_ ?_); (show _ = true; rfl)) | ((with_reducible refine go_f ?_ ?_); (show _ = false; rfl)) | (with_reducible refine go_ne ?_) | (with_reducible refine go_eq ?_) | (with_reducible refine go_fad ?_) | (with_reducible refine go_nil ?_))
  rfl
/-- A new reader. -/
theorem nReader_eq {H : Heap} {q : Option Addr} {bs : List Int} (c : Nat) (hS : Shows H q (byt bs)) (hb : Byts bs) : ∃ p q' H', (∀ (R : Type) (K : Option Addr → Heap → Option R), bitio_NewReader q bs.length c H K = K (some ⟨p, 0, none⟩) H') ∧ Rd H' p q' bs (0, 0) ∧ Old H.length H H' ∧ H.length ≤ p ∧ ∀ a, q' = some a → H.length ≤ a.block ∧ a.block < p := by
  have hl := hb.2
  have hc := hS.hcells
  rw [byt_len] at hc
  by_cases h0 : bs.length = 0
  · have : bs = [] := List.length_eq_zero_iff.1 h0
    subst this
    refine ⟨H.length, none, H ++ [some ⟨[.bool true, .slice none 0 0, .int .i64 0, .int .i64 0], false, 0⟩], fun R K => ?_, ⟨⟨0, (show hblk _ _ = _ from hblk_new H _)⟩, .inl rfl, (fun a ha => by cases ha), ⟨by simp, by simp, by simp⟩, hb⟩, Old.app _ _, Nat.le_refl _, fun a ha => by cases ha⟩
    unfold bitio_NewReader bitio_NewReader_b hapnS hapn
    rw [Nat.mul_one, hc]
    simp [unk, hal]
  · obtain ⟨H1, hH1⟩ : ∃ H1, H1 = H ++ [some (⟨byt bs, false, 1⟩ : Blk)] := ⟨_, rfl⟩
    have n1 : H1.length = H.length + 1 := by rw [hH1]; simp
    have o1 : Old H.length H H1 := hH1 ▸ Old.app _ _
    have e1 : ∀ (R : Type) (K : Option Addr → Nat → Nat → Heap → Option R), hapnS 1 1 H none 0 0 q bs.length K = K (some ⟨H.length, 0, none⟩) bs.length unk H1 := fun R K => by
      unfold hapnS hapn
      rw [Nat.mul_one, hc]
      simp only
      rw [if_neg (by unfold unk; omega), if_neg h0, if_neg (by omega), if_pos (by omega)]
      have : FW.hcells H none (0 * 1) = some [] := rfl
      rw [this, hH1]
      simp
    obtain ⟨H2, hH2⟩ : ∃ H2, H2 = H1 ++ [some ⟨[.bool true, .slice (some ⟨H.length, 0, none⟩) bs.length unk, .int .i64 0, .int .i64 0], false, 0⟩] := ⟨_, rfl⟩
    have o2 : Old H1.length H1 H2 := hH2 ▸ Old.app _ _
    have O1 : Owns H1 H.length (byt bs) 1 := by rw [hH1]; exact hblk_new H _
    have O2 : Owns H2 H1.length [.bool true, .slice (some ⟨H.length, 0, none⟩) bs.length unk, .int .i64 0, .int .i64 0] 0 := by rw [hH2]; exact hblk_new H1 _
    refine ⟨H1.length, some ⟨H.length, 0, none⟩, H2, fun R K => ?_, ⟨⟨unk, O2⟩, (O1.old o2 (by omega)).sees.shows, (fun a ha => by cases ha; simp only; omega), ⟨by simp, by simp, by simp⟩, hb⟩, o1.trans (o2.mono o1.1), by omega, fun a ha => by cases ha; simp only; omega⟩
    unfold bitio_NewReader bitio_NewReader_b
    repeat (first | (with_reducible refine (e1 _ _).trans ?_) | ((with_reducible refine go_ip (x := ?_) ?_ ?_); rotate_left 1; (first  | rfl)) | ((with_reducible refine go_bp (x := ?_) ?_ ?_); rotate_left 1; (first  | rfl)) | ((with_reducible refine go_lp (x := ?_) (l := ?_) (c := ?_) ?_ ?_); rotate_left 3; (first  | rfl)) | ((with_reducible refine go_pp (x := ?_) ?_ ?_); rotate_left 1; (first  | rfl)) | ((with_reducible refine go_i (x := ?_) ?_ ?_); rotate_left 1; (first  | rfl)) | ((with_reducible refine go_b (x := ?_) ?_ ?_); rotate_left 1; (first  | rfl)) | ((with_reducible refine go_l (x := ?_) (l := ?_) (c := ?_) ?_ ?_); rotate_left 3; (first  | rfl)) | ((with_reducible refine go_p (x := ?_) ?_ ?_); rotate_left 1; (first  | rfl)) | ((with_reducible refine go_halst hH2 ?_ ?_ ?_); rfl; rfl) | (with_reducible refine go_halN hH2 ?_) | ((with_reducible refine go_t ?_ ?_); (show _ = true; rfl)) | ((with_reducible refine go_f ?_ ?_); (show _ = false; rfl)) | (with_reducible refine go_ne ?_) | (with_reducible refine go_eq ?_) | (with_reducible refine go_fad ?_) | (with_reducible refine go_nil ?_))
    rfl
end Go.Proofs.Ytiapgcgpdndkiaa.Sh
