/- Bitio: the reference's reader: new ones, a bit. -/
import Derived.Test.YtiapgcgpdndkiaaBtR
import Derived.Test.YtiapgcgpdndkiaaSh8
set_option linter.unusedVariables false
set_option linter.unusedSimpArgs false
namespace Go.Proofs.Ytiapgcgpdndkiaa.Sh
open Go.Proofs.Ytiapgcgpdndkiaa.FW Go.IntWalk
/-- The last steps of a bit. -/
theorem bit64 {bs : List Int} (hb : Byts bs) (a s : Nat) (hs : s ≤ 8) (R : Type) (K : Int → Option R) : hbin .shr .i64 (IntKind.wrap .i64 (bs.getD (a - 1) 0)) (IntKind.wrap .u64 ((s : Nat) : Int)) (fun n => hbin .and .i64 n 1 K) = K ((bitr bs a s : Nat) : Int) := by
  obtain ⟨n, h1, h2⟩ := hb.at (a - 1)
  have h3 : n / 2 ^ s ≤ n := Nat.div_le_self _ _
  unfold bitr
  rw [h1, w64 (by omega) (by omega), shr64 (by omega), Int.toNat_natCast]
  generalize n / 2 ^ s = d at h3 ⊢
  have := and64 (a := d) (b := 1) (by omega) (by omega) K
  rw [Nat.and_one_is_mod] at this
  exact this
theorem uGet_eq (k : Nat) {H : Heap} {p : Nat} {q : Option Addr} {bs : List Int} {s : Nat × Nat} (h : Rd H p q bs s) :
    ∃ H', (∀ (R : Type) (K : Int → Int → Heap → Option R), R09_Reader_Get k (some ⟨p, 0, none⟩) H K = K (rget bs s).1.1 (rget bs s).1.2 H') ∧ Rd H' p q bs (rget bs s).2 ∧ But p H H' := by
  obtain ⟨c, hO⟩ := h.c
  obtain ⟨a, l⟩ := s
  have hok := h.ok
  have ha := hok.a
  have hl7 := hok.l
  have hz := hok.z
  have hlen := h.by_.2
  have hr := rget_ok hok
  simp only at ha hl7 hz
  have m : ∀ o, hcell H p o = [Value.bool true, .slice q bs.length c, .int .i64 ((a : Nat) : Int), .int .i64 ((l : Nat) : Int)][o]? := fun o => hO.sees.cell o
  have tail : ∀ (H2 : Heap) (x y : Nat), Owns H2 p (rcl q bs.length c x (y + 1)) 0 → But p H H2 → 0 < x → x ≤ bs.length → y ≤ 7 →
      ∃ H', (∀ (R : Type) (K : Int → Int → Heap → Option R), (hnil (some ⟨p, 0, none⟩) fun p224 => hfad 3 p224 fun p225 => ldI .i64 H2 p225 fun n226 => hnil (some ⟨p, 0, none⟩) fun p227 => hfad 3 p227 fun p228 => hst1 H2 p228 (.int .i64 (IntKind.wrap .i64 (n226 - 1))) fun H229 => hnil (some ⟨p, 0, none⟩) fun p230 => hfad 1 p230 fun p231 => ldL H229 p231 fun q232 l233 c234 => hnil (some ⟨p, 0, none⟩) fun p235 => hfad 2 p235 fun p236 => ldI .i64 H229 p236 fun n237 => hidx q232 l233 (IntKind.wrap .i64 (n237 - 1)) 1 fun p238 => ldI .u8 H229 p238 fun n239 => hnil (some ⟨p, 0, none⟩) fun p240 => hfad 3 p240 fun p241 => ldI .i64 H229 p241 fun n242 => hbin .shr .i64 (IntKind.wrap .i64 n239) (IntKind.wrap .u64 n242) fun n243 => hbin .and .i64 n243 1 fun n244 => K n244 0 H229) = K ((bitr bs x y : Nat) : Int) 0 H') ∧ Owns H' p (rcl q bs.length c x y) 0 ∧ But p H H' := by
    intro H2 x y h2 b2 hx hxl hy
    obtain ⟨H3, e3, O3, b3, n3⟩ := Rd.st3 h2 y
    have w1 : IntKind.wrap .i64 (((y + 1 : Nat) : Int) - 1) = ((y : Nat) : Int) := by rw [w64 (by omega) (by omega)]; omega
    have w2 : IntKind.wrap .i64 (((x : Nat) : Int) - 1) = ((x - 1 : Nat) : Int) := by rw [w64 (by omega) (by omega)]; omega
    have m2 : ∀ o, hcell H2 p o = [Value.bool true, .slice q bs.length c, .int .i64 ((x : Nat) : Int), .int .i64 ((y + 1 : Nat) : Int)][o]? := fun o => h2.sees.cell o
    have m3 : ∀ o, hcell H3 p o = [Value.bool true, .slice q bs.length c, .int .i64 ((x : Nat) : Int), .int .i64 ((y : Nat) : Int)][o]? := fun o => O3.sees.cell o
    have sh3 : Shows H3 q (byt bs) := h.sh.but (b2.trans b3) h.ap
    obtain ⟨z, e4, e5⟩ := byte_at' sh3 (i := x - 1) (by omega)
    have e3' : ∀ (R : Type) (K : Heap → Option R), hst1 H2 (some ⟨p, 3, none⟩) (.int .i64 (IntKind.wrap .i64 (((y + 1 : Nat) : Int) - 1))) K = K H3 := by rw [w1]; exact e3
    have e4' : ∀ (R : Type) (K : Option Addr → Option R), hidx q bs.length (IntKind.wrap .i64 (((x : Nat) : Int) - 1)) 1 K = K z := by rw [w2]; exact e4
    refine ⟨H3, fun R K => ?_, O3, b2.trans b3⟩
    repeat (first | (with_reducible refine (e3' _ _).trans ?_) | (with_reducible refine (e4' _ _).trans ?_) | (with_reducible refine (e5 _ _).trans ?_) | ((with_reducible refine go_ip (x := ?_) ?_ ?_); rotate_left 1; (first | ((with_reducible refine (m2 _).trans ?_); rfl) | ((with_reducible refine (m3 _).trans ?_); rfl) | rfl)) | ((with_reducible refine go_bp (x := ?_) ?_ ?_); rotate_left 1; (first | ((with_reducible refine (m2 _).trans ?_); rfl) | ((with_reducible refine (m3 _).trans ?_); rfl) | rfl)) | ((with_reducible refine go_lp (x := ?_) (l := ?_) (c := ?_) ?_ ?_); rotate_left 3; (first | ((with_reducible refine (m2 _).trans ?_); rfl) | ((with_reducible refine (m3 _).trans ?_); rfl) | rfl)) | ((with_reducible refine go_pp (x := ?_) ?_ ?_); rotate_left 1; (first | ((with_reducible refine (m2 _).trans ?_); rfl) | ((with_reducible refine (m3 _).trans ?_); rfl) | rfl)) | ((with_reducible refine go_i (x := ?_) ?_ ?_); rotate_left 1; (first | ((with_reducible refine (m2 _).trans ?_); rfl) | ((with_reducible refine (m3 _).trans ?_); rfl) | rfl)) | ((with_reducible refine go_b (x := ?_) ?_ ?_); rotate_left 1; (first | ((with_reducible refine (m2 _).trans ?_); rfl) | ((with_reducible refine (m3 _).trans ?_); rfl) | rfl)) | ((with_reducible refine go_l (x := ?_) (l := ?_) (c := ?_) ?_ ?_); rotate_left 3; (first | ((with_reducible refine (m2 _).trans ?_); rfl) | ((with_reducible refine (m3 _).trans ?_); rfl) | rfl)) | ((with_reducible refine go_p (x := ?_) ?_ ?_); rotate_left 1; (first | ((with_reducible refine (m2 _).trans ?_); rfl) | ((with_reducible refine (m3 _).trans ?_); rfl) | rfl)) | ((with_reducible refine go_halst rfl ?_ ?_ ?_); rfl; rfl) | (with_reducible refine go_halN rfl ?_) | ((with_reducible refine go_t ?_ ?_); (show _ = true; rfl)) | ((with_reducible refine go_f ?_ ?_); (show _ = false; rfl)) | (with_reducible refine go_ne ?_) | (with_reducible refine go_eq ?_) | (with_reducible refine go_fad ?_) | (with_reducible refine go_nil ?_))
    exact bit64 h.by_ x y (by omega) R fun n => K n 0 H3
  by_cases hl0 : l = 0
  · subst hl0
    have d0 : (((0 : Nat) : Int) == 0) = true := rfl
    by_cases hat : a = bs.length
    · have d1 : decide (((a : Nat) : Int) ≥ ((bs.length : Nat) : Int)) = true := decide_eq_true (by omega)
      have er : rget bs (a, 0) = ((0, 7), a, 0) := by unfold rget; rw [if_pos rfl, if_pos hat]
      rw [er]
      refine ⟨H, fun R K => ?_, h, .refl _ _⟩
      unfold R09_Reader_Get R09_Reader_Get_b R09_Reader_Get_p0 R09_Reader_Get_p0_b R09_Reader_Get_p1 R09_Reader_Get_p1_b
      try dsimp only
      repeat (first | ((with_reducible refine go_ip (x := ?_) ?_ ?_); rotate_left 1; (first | ((with_reducible refine (m _).trans ?_); rfl) | rfl)) | ((with_reducible refine go_bp (x := ?_) ?_ ?_); rotate_left 1; (first | ((with_reducible refine (m _).trans ?_); rfl) | rfl)) | ((with_reducible refine go_lp (x := ?_) (l := ?_) (c := ?_) ?_ ?_); rotate_left 3; (first | ((with_reducible refine (m _).trans ?_); rfl) | rfl)) | ((with_reducible refine go_pp (x := ?_) ?_ ?_); rotate_left 1; (first | ((with_reducible refine (m _).trans ?_); rfl) | rfl)) | ((with_reducible refine go_i (x := ?_) ?_ ?_); rotate_left 1; (first | ((with_reducible refine (m _).trans ?_); rfl) | rfl)) | ((with_reducible refine go_b (x := ?_) ?_ ?_); rotate_left 1; (first | ((with_reducible refine (m _).trans ?_); rfl) | rfl)) | ((with_reducible refine go_l (x := ?_) (l := ?_) (c := ?_) ?_ ?_); rotate_left 3; (first | ((with_reducible refine (m _).trans ?_); rfl) | rfl)) | ((with_reducible refine go_p (x := ?_) ?_ ?_); rotate_left 1; (first | ((with_reducible refine (m _).trans ?_); rfl) | rfl)) | ((with_reducible refine go_halst rfl ?_ ?_ ?_); rfl; rfl) | (with_reducible refine go_halN rfl ?_) | (with_reducible refine go_t d0 ?_) | (with_reducible refine go_f d0 ?_) | (with_reducible refine go_t d1 ?_) | (with_reducible refine go_f d1 ?_) | ((with_reducible refine go_t ?_ ?_); (show _ = true; rfl)) | ((with_reducible refine go_f ?_ ?_); (show _ = false; rfl)) | (with_reducible refine go_ne ?_) | (with_reducible refine go_eq ?_) | (with_reducible refine go_fad ?_) | (with_reducible refine go_nil ?_))
      rfl
    · have d1 : decide (((a : Nat) : Int) ≥ ((bs.length : Nat) : Int)) = false := decide_eq_false (by omega)
      have hp2 : ∀ (R : Type) (KN : Option Addr → Int → Bool → Option R), R09_Reader_Get_p3 k (some ⟨p, 0, none⟩) 8 H KN = KN (some ⟨p, 0, none⟩) 8 (decide (szr bs a = 7)) := by
        intro R KN
        by_cases h0 : 0 < a
        · have d2 : decide (((a : Nat) : Int) > 0) = true := decide_eq_true (by omega)
          obtain ⟨z, e4, e5⟩ := byte_at' h.sh (i := a - 1) (by omega)
          have w2 : IntKind.wrap .i64 (((a : Nat) : Int) - 1) = ((a - 1 : Nat) : Int) := by rw [w64 (by omega) (by omega)]; omega
          have e4' : ∀ (R : Type) (K : Option Addr → Option R), hidx q bs.length (IntKind.wrap .i64 (((a : Nat) : Int) - 1)) 1 K = K z := by rw [w2]; exact e4
          have hs : decide (szr bs a = 7) = (bs.getD (a - 1) 0 == 255) := by
            unfold szr
            by_cases h255 : bs.getD (a - 1) 0 = 255
            · rw [if_pos ⟨h0, h255⟩, h255]; rfl
            · rw [if_neg fun hh => h255 hh.2]; symm; simpa using h255
          unfold R09_Reader_Get_p3 R09_Reader_Get_p3_b
          repeat (first | (with_reducible refine (e4' _ _).trans ?_) | (with_reducible refine (e5 _ _).trans ?_) | ((with_reducible refine go_ip (x := ?_) ?_ ?_); rotate_left 1; (first | ((with_reducible refine (m _).trans ?_); rfl) | rfl)) | ((with_reducible refine go_bp (x := ?_) ?_ ?_); rotate_left 1; (first | ((with_reducible refine (m _).trans ?_); rfl) | rfl)) | ((with_reducible refine go_lp (x := ?_) (l := ?_) (c := ?_) ?_ ?_); rotate_left 3; (first | ((with_reducible refine (m _).trans ?_); rfl) | rfl)) | ((with_reducible refine go_pp (x := ?_) ?_ ?_); rotate_left 1; (first | ((with_reducible refine (m _).trans ?_); rfl) | rfl)) | ((with_reducible refine go_i (x := ?_) ?_ ?_); rotate_left 1; (first | ((with_reducible refine (m _).trans ?_); rfl) | rfl)) | ((with_reducible refine go_b (x := ?_) ?_ ?_); rotate_left 1; (first | ((with_reducible refine (m _).trans ?_); rfl) | rfl)) | ((with_reducible refine go_l (x := ?_) (l := ?_) (c := ?_) ?_ ?_); rotate_left 3; (first | ((with_reducible refine (m _).trans ?_); rfl) | rfl)) | ((with_reducible refine go_p (x := ?_) ?_ ?_); rotate_left 1; (first | ((with_reducible refine (m _).trans ?_); rfl) | rfl)) | ((with_reducible refine go_halst rfl ?_ ?_ ?_); rfl; rfl) | (with_reducible refine go_halN rfl ?_) | (with_reducible refine go_t d2 ?_) | (with_reducible refine go_f d2 ?_) | ((with_reducible refine go_t ?_ ?_); (show _ = true; rfl)) | ((with_reducible refine go_f ?_ ?_); (show _ = false; rfl)) | (with_reducible refine go_ne ?_) | (with_reducible refine go_eq ?_) | (with_reducible refine go_fad ?_) | (with_reducible refine go_nil ?_))
          rw [hs]
        · have d2 : decide (((a : Nat) : Int) > 0) = false := decide_eq_false (by omega)
          have hs : decide (szr bs a = 7) = false := by unfold szr; rw [if_neg fun hh => h0 hh.1]; rfl
          unfold R09_Reader_Get_p3 R09_Reader_Get_p3_b
          repeat (first | ((with_reducible refine go_ip (x := ?_) ?_ ?_); rotate_left 1; (first | ((with_reducible refine (m _).trans ?_); rfl) | rfl)) | ((with_reducible refine go_bp (x := ?_) ?_ ?_); rotate_left 1; (first | ((with_reducible refine (m _).trans ?_); rfl) | rfl)) | ((with_reducible refine go_lp (x := ?_) (l := ?_) (c := ?_) ?_ ?_); rotate_left 3; (first | ((with_reducible refine (m _).trans ?_); rfl) | rfl)) | ((with_reducible refine go_pp (x := ?_) ?_ ?_); rotate_left 1; (first | ((with_reducible refine (m _).trans ?_); rfl) | rfl)) | ((with_reducible refine go_i (x := ?_) ?_ ?_); rotate_left 1; (first | ((with_reducible refine (m _).trans ?_); rfl) | rfl)) | ((with_reducible refine go_b (x := ?_) ?_ ?_); rotate_left 1; (first | ((with_reducible refine (m _).trans ?_); rfl) | rfl)) | ((with_reducible refine go_l (x := ?_) (l := ?_) (c := ?_) ?_ ?_); rotate_left 3; (first | ((with_reducible refine (m _).trans ?_); rfl) | rfl)) | ((with_reducible refine go_p (x := ?_) ?_ ?_); rotate_left 1; (first | ((with_reducible refine (m _).trans ?_); rfl) | rfl)) | ((with_reducible refine go_halst rfl ?_ ?_ ?_); rfl; rfl) | (with_reducible refine go_halN rfl ?_) | (with_reducible refine go_t d2 ?_) | (with_reducible refine go_f d2 ?_) | ((with_reducible refine go_t ?_ ?_); (show _ = true; rfl)) | ((with_reducible refine go_f ?_ ?_); (show _ = false; rfl)) | (with_reducible refine go_ne ?_) | (with_reducible refine go_eq ?_) | (with_reducible refine go_fad ?_) | (with_reducible refine go_nil ?_))
          rw [hs]
      obtain ⟨z, e4, e5⟩ := byte_at' h.sh (i := a) (by omega)
      by_cases hbad : szr bs a = 7 ∧ 128 ≤ bs.getD a 0
      · have er : rget bs (a, 0) = ((0, 8), a, 0) := by unfold rget; rw [if_pos rfl, if_neg hat, if_pos hbad]
        have d3 : decide (szr bs a = 7) = true := decide_eq_true hbad.1
        have d4 : decide (bs.getD a 0 ≥ 128) = true := decide_eq_true hbad.2
        rw [er]
        refine ⟨H, fun R K => ?_, h, .refl _ _⟩
        unfold R09_Reader_Get R09_Reader_Get_b R09_Reader_Get_p0 R09_Reader_Get_p0_b R09_Reader_Get_p1 R09_Reader_Get_p1_b R09_Reader_Get_p2 R09_Reader_Get_p2_b
        try dsimp only
        repeat (first | (with_reducible refine (hp2 _ _).trans ?_) | (with_reducible refine (e4 _ _).trans ?_) | (with_reducible refine (e5 _ _).trans ?_) | ((with_reducible refine go_ip (x := ?_) ?_ ?_); rotate_left 1; (first | ((with_reducible refine (m _).trans ?_); rfl) | rfl)) | ((with_reducible refine go_bp (x := ?_) ?_ ?_); rotate_left 1; (first | ((with_reducible refine (m _).trans ?_); rfl) | rfl)) | ((with_reducible refine go_lp (x := ?_) (l := ?_) (c := ?_) ?_ ?_); rotate_left 3; (first | ((with_reducible refine (m _).trans ?_); rfl) | rfl)) | ((with_reducible refine go_pp (x := ?_) ?_ ?_); rotate_left 1; (first | ((with_reducible refine (m _).trans ?_); rfl) | rfl)) | ((with_reducible refine go_i (x := ?_) ?_ ?_); rotate_left 1; (first | ((with_reducible refine (m _).trans ?_); rfl) | rfl)) | ((with_reducible refine go_b (x := ?_) ?_ ?_); rotate_left 1; (first | ((with_reducible refine (m _).trans ?_); rfl) | rfl)) | ((with_reducible refine go_l (x := ?_) (l := ?_) (c := ?_) ?_ ?_); rotate_left 3; (first | ((with_reducible refine (m _).trans ?_); rfl) | rfl)) | ((with_reducible refine go_p (x := ?_) ?_ ?_); rotate_left 1; (first | ((with_reducible refine (m _).trans ?_); rfl) | rfl)) | ((with_reducible refine go_halst rfl ?_ ?_ ?_); rfl; rfl) | (with_reducible refine go_halN rfl ?_) | (with_reducible refine go_t d0 ?_) | (with_reducible refine go_f d0 ?_) | (with_reducible refine go_t d1 ?_) | (with_reducible refine go_f d1 ?_) | (with_reducible refine go_t d3 ?_) | (with_reducible refine go_f d3 ?_) | (with_reducible refine go_t d4 ?_) | (with_reducible refine go_f d4 ?_) | ((with_reducible refine go_t ?_ ?_); (show _ = true; rfl)) | ((with_reducible refine go_f ?_ ?_); (show _ = false; rfl)) | (with_reducible refine go_ne ?_) | (with_reducible refine go_eq ?_) | (with_reducible refine go_fad ?_) | (with_reducible refine go_nil ?_))
        rfl
      · have er : rget bs (a, 0) = ((((bitr bs (a + 1) (szr bs a - 1) : Nat) : Int), 0), a + 1, szr bs a - 1) := by unfold rget; rw [if_pos rfl, if_neg hat, if_neg hbad]
        have hz7 := szr_ge bs a
        have hz8 := szr_le bs a
        have hp1 : ∀ (R : Type) (KN : Option Addr → Int → Option R) (KR : Int → Int → Option R), R09_Reader_Get_p2 k (some ⟨p, 0, none⟩) 8 H KN KR = KN (some ⟨p, 0, none⟩) ((szr bs a : Nat) : Int) := by
          intro R KN KR
          by_cases h7 : szr bs a = 7
          · have d3 : decide (szr bs a = 7) = true := decide_eq_true h7
            have d4 : decide (bs.getD a 0 ≥ 128) = false := decide_eq_false fun hh => hbad ⟨h7, hh⟩
            unfold R09_Reader_Get_p2 R09_Reader_Get_p2_b
            repeat (first | (with_reducible refine (hp2 _ _).trans ?_) | (with_reducible refine (e4 _ _).trans ?_) | (with_reducible refine (e5 _ _).trans ?_) | ((with_reducible refine go_ip (x := ?_) ?_ ?_); rotate_left 1; (first | ((with_reducible refine (m _).trans ?_); rfl) | rfl)) | ((with_reducible refine go_bp (x := ?_) ?_ ?_); rotate_left 1; (first | ((with_reducible refine (m _).trans ?_); rfl) | rfl)) | ((with_reducible refine go_lp (x := ?_) (l := ?_) (c := ?_) ?_ ?_); rotate_left 3; (first | ((with_reducible refine (m _).trans ?_); rfl) | rfl)) | ((with_reducible refine go_pp (x := ?_) ?_ ?_); rotate_left 1; (first | ((with_reducible refine (m _).trans ?_); rfl) | rfl)) | ((with_reducible refine go_i (x := ?_) ?_ ?_); rotate_left 1; (first | ((with_reducible refine (m _).trans ?_); rfl) | rfl)) | ((with_reducible refine go_b (x := ?_) ?_ ?_); rotate_left 1; (first | ((with_reducible refine (m _).trans ?_); rfl) | rfl)) | ((with_reducible refine go_l (x := ?_) (l := ?_) (c := ?_) ?_ ?_); rotate_left 3; (first | ((with_reducible refine (m _).trans ?_); rfl) | rfl)) | ((with_reducible refine go_p (x := ?_) ?_ ?_); rotate_left 1; (first | ((with_reducible refine (m _).trans ?_); rfl) | rfl)) | ((with_reducible refine go_halst rfl ?_ ?_ ?_); rfl; rfl) | (with_reducible refine go_halN rfl ?_) | (with_reducible refine go_t d3 ?_) | (with_reducible refine go_f d3 ?_) | (with_reducible refine go_t d4 ?_) | (with_reducible refine go_f d4 ?_) | ((with_reducible refine go_t ?_ ?_); (show _ = true; rfl)) | ((with_reducible refine go_f ?_ ?_); (show _ = false; rfl)) | (with_reducible refine go_ne ?_) | (with_reducible refine go_eq ?_) | (with_reducible refine go_fad ?_) | (with_reducible refine go_nil ?_))
            rw [h7]; rfl
          · have d3 : decide (szr bs a = 7) = false := decide_eq_false h7
            have h8 : szr bs a = 8 := by omega
            unfold R09_Reader_Get_p2 R09_Reader_Get_p2_b
            repeat (first | (with_reducible refine (hp2 _ _).trans ?_) | ((with_reducible refine go_ip (x := ?_) ?_ ?_); rotate_left 1; (first | ((with_reducible refine (m _).trans ?_); rfl) | rfl)) | ((with_reducible refine go_bp (x := ?_) ?_ ?_); rotate_left 1; (first | ((with_reducible refine (m _).trans ?_); rfl) | rfl)) | ((with_reducible refine go_lp (x := ?_) (l := ?_) (c := ?_) ?_ ?_); rotate_left 3; (first | ((with_reducible refine (m _).trans ?_); rfl) | rfl)) | ((with_reducible refine go_pp (x := ?_) ?_ ?_); rotate_left 1; (first | ((with_reducible refine (m _).trans ?_); rfl) | rfl)) | ((with_reducible refine go_i (x := ?_) ?_ ?_); rotate_left 1; (first | ((with_reducible refine (m _).trans ?_); rfl) | rfl)) | ((with_reducible refine go_b (x := ?_) ?_ ?_); rotate_left 1; (first | ((with_reducible refine (m _).trans ?_); rfl) | rfl)) | ((with_reducible refine go_l (x := ?_) (l := ?_) (c := ?_) ?_ ?_); rotate_left 3; (first | ((with_reducible refine (m _).trans ?_); rfl) | rfl)) | ((with_reducible refine go_p (x := ?_) ?_ ?_); rotate_left 1; (first | ((with_reducible refine (m _).trans ?_); rfl) | rfl)) | ((with_reducible refine go_halst rfl ?_ ?_ ?_); rfl; rfl) | (with_reducible refine go_halN rfl ?_) | (with_reducible refine go_t d3 ?_) | (with_reducible refine go_f d3 ?_) | ((with_reducible refine go_t ?_ ?_); (show _ = true; rfl)) | ((with_reducible refine go_f ?_ ?_); (show _ = false; rfl)) | (with_reducible refine go_ne ?_) | (with_reducible refine go_eq ?_) | (with_reducible refine go_fad ?_) | (with_reducible refine go_nil ?_))
            rw [h8]; rfl
        obtain ⟨H1, e1, O1, b1, n1⟩ := Rd.st2 hO (a + 1)
        obtain ⟨H2, e2, O2, b2, n2⟩ := Rd.st3 O1 (szr bs a)
        obtain ⟨H3, e3, O3, b3⟩ := tail H2 (a + 1) (szr bs a - 1) (by rw [show szr bs a - 1 + 1 = szr bs a from by omega]; exact O2) (b1.trans b2) (by omega) (by omega) (by omega)
        have w1 : IntKind.wrap .i64 (((a : Nat) : Int) + 1) = ((a + 1 : Nat) : Int) := by rw [w64 (by omega) (by omega)]; omega
        have e1' : ∀ (R : Type) (K : Heap → Option R), hst1 H (some ⟨p, 2, none⟩) (.int .i64 (IntKind.wrap .i64 (((a : Nat) : Int) + 1))) K = K H1 := by rw [w1]; exact e1
        rw [er] at hr ⊢
        refine ⟨H3, fun R K => ?_, ⟨⟨c, O3⟩, h.sh.but b3 h.ap, h.ap, hr, h.by_⟩, b3⟩
        unfold R09_Reader_Get R09_Reader_Get_b R09_Reader_Get_p0 R09_Reader_Get_p0_b R09_Reader_Get_p1 R09_Reader_Get_p1_b
        refine go_f rfl (go_nil (go_fad (go_b (m 0) (go_f rfl (go_nil (go_fad (go_i (m 3) (go_t d0 (go_nil (go_fad (go_i (m 2) (go_nil (go_fad (go_l (m 1) (go_f d1 ((hp1 _ _ _).trans ?_))))))))))))))))
        repeat (first | (with_reducible refine (e1' _ _).trans ?_) | (with_reducible refine (e2 _ _).trans ?_) | ((with_reducible refine go_ip (x := ?_) ?_ ?_); rotate_left 1; (first | ((with_reducible refine (m _).trans ?_); rfl) | rfl)) | ((with_reducible refine go_bp (x := ?_) ?_ ?_); rotate_left 1; (first | ((with_reducible refine (m _).trans ?_); rfl) | rfl)) | ((with_reducible refine go_lp (x := ?_) (l := ?_) (c := ?_) ?_ ?_); rotate_left 3; (first | ((with_reducible refine (m _).trans ?_); rfl) | rfl)) | ((with_reducible refine go_pp (x := ?_) ?_ ?_); rotate_left 1; (first | ((with_reducible refine (m _).trans ?_); rfl) | rfl)) | ((with_reducible refine go_i (x := ?_) ?_ ?_); rotate_left 1; (first | ((with_reducible refine (m _).trans ?_); rfl) | rfl)) | ((with_reducible refine go_b (x := ?_) ?_ ?_); rotate_left 1; (first | ((with_reducible refine (m _).trans ?_); rfl) | rfl)) | ((with_reducible refine go_l (x := ?_) (l := ?_) (c := ?_) ?_ ?_); rotate_left 3; (first | ((with_reducible refine (m _).trans ?_); rfl) | rfl)) | ((with_reducible refine go_p (x := ?_) ?_ ?_); rotate_left 1; (first | ((with_reducible refine (m _).trans ?_); rfl) | rfl)) | ((with_reducible refine go_halst rfl ?_ ?_ ?_); rfl; rfl) | (with_reducible refine go_halN rfl ?_) | (with_reducible refine go_t d0 ?_) | (with_reducible refine go_f d0 ?_) | (with_reducible refine go_t d1 ?_) | (with_reducible refine go_f d1 ?_) | ((with_reducible refine go_t ?_ ?_); (show _ = true; rfl)) | ((with_reducible refine go_f ?_ ?_); (show _ = false; rfl)) | (with_reducible refine go_ne ?_) | (with_reducible refine go_eq ?_) | (with_reducible refine go_fad ?_) | (with_reducible refine go_nil ?_))
        exact e3 R K
  · have d0 : (((l : Nat) : Int) == 0) = false := by rw [beq_eq_false_iff_ne]; omega
    have er : rget bs (a, l) = ((((bitr bs a (l - 1) : Nat) : Int), 0), a, l - 1) := by unfold rget; rw [if_neg hl0]
    obtain ⟨H3, e3, O3, b3⟩ := tail H a (l - 1) (by rw [show l - 1 + 1 = l from by omega]; exact hO) (.refl _ _) (by omega) (by omega) (by omega)
    rw [er] at hr ⊢
    refine ⟨H3, fun R K => ?_, ⟨⟨c, O3⟩, h.sh.but b3 h.ap, h.ap, hr, h.by_⟩, b3⟩
    unfold R09_Reader_Get R09_Reader_Get_b R09_Reader_Get_p0 R09_Reader_Get_p0_b R09_Reader_Get_p1 R09_Reader_Get_p1_b
    refine go_f rfl (go_nil (go_fad (go_b (m 0) (go_f rfl (go_nil (go_fad (go_i (m 3) (go_f d0 ?_))))))))
    exact e3 R K
/-- A new reader of the reference. -/
theorem uReader_eq {H : Heap} {q : Option Addr} {bs : List Int} (c : Nat) (hS : Shows H q (byt bs)) (hb : Byts bs) : ∃ p q' H', (∀ (R : Type) (K : Option Addr → Heap → Option R), R09_NewReader q bs.length c H K = K (some ⟨p, 0, none⟩) H') ∧ Rd H' p q' bs (0, 0) ∧ Old H.length H H' ∧ H.length ≤ p ∧ ∀ a, q' = some a → H.length ≤ a.block ∧ a.block < p := by
  have hl := hb.2
  obtain ⟨Ha, hHa⟩ : ∃ Ha, Ha = H ++ [some (⟨[], false, 0⟩ : Blk)] := ⟨_, rfl⟩
  have oa : Old H.length H Ha := hHa ▸ Old.app _ _
  have na : Ha.length = H.length + 1 := by rw [hHa]; simp
  have hc := (hS.keep oa).hcells
  rw [byt_len] at hc
  by_cases h0 : bs.length = 0
  · have : bs = [] := List.length_eq_zero_iff.1 h0
    subst this
    obtain ⟨H2, hH2⟩ : ∃ H2, H2 = Ha ++ [some ⟨[.bool true, .slice (some ⟨H.length, 0, none⟩) 0 0, .int .i64 0, .int .i64 0], false, 0⟩] := ⟨_, rfl⟩
    have o2 : Old Ha.length Ha H2 := hH2 ▸ Old.app _ _
    have O2 : Owns H2 Ha.length [.bool true, .slice (some ⟨H.length, 0, none⟩) 0 0, .int .i64 0, .int .i64 0] 0 := by rw [hH2]; exact hblk_new Ha _
    have e1 : ∀ (R : Type) (K : Option Addr → Nat → Nat → Heap → Option R), happS 1 1 Ha (some ⟨H.length, 0, none⟩) 0 0 q 0 K = K (some ⟨H.length, 0, none⟩) 0 0 Ha := fun R K => by
      have hc0 : FW.hcells Ha q 0 = some [] := by unfold FW.hcells; rfl
      unfold happS happ
      rw [Nat.zero_mul, hc0]
      simp only
      rw [if_neg (by unfold unk; omega), if_pos (by omega), if_pos trivial]
    refine ⟨Ha.length, some ⟨H.length, 0, none⟩, H2, fun R K => ?_, ⟨⟨0, O2⟩, .inl rfl, (fun a ha => by cases ha; simp only; omega), ⟨by simp, by simp, by simp⟩, hb⟩, oa.trans (o2.mono oa.1), by omega, fun a ha => by cases ha; simp only; omega⟩
    show R09_NewReader q 0 c H K = _
    unfold R09_NewReader R09_NewReader_b
    repeat (first | (with_reducible refine (e1 _ _).trans ?_) | ((with_reducible refine go_ip (x := ?_) ?_ ?_); rotate_left 1; (first  | rfl)) | ((with_reducible refine go_bp (x := ?_) ?_ ?_); rotate_left 1; (first  | rfl)) | ((with_reducible refine go_lp (x := ?_) (l := ?_) (c := ?_) ?_ ?_); rotate_left 3; (first  | rfl)) | ((with_reducible refine go_pp (x := ?_) ?_ ?_); rotate_left 1; (first  | rfl)) | ((with_reducible refine go_i (x := ?_) ?_ ?_); rotate_left 1; (first  | rfl)) | ((with_reducible refine go_b (x := ?_) ?_ ?_); rotate_left 1; (first  | rfl)) | ((with_reducible refine go_l (x := ?_) (l := ?_) (c := ?_) ?_ ?_); rotate_left 3; (first  | rfl)) | ((with_reducible refine go_p (x := ?_) ?_ ?_); rotate_left 1; (first  | rfl)) | ((with_reducible refine go_halst hHa ?_ ?_ ?_); rfl; rfl) | (with_reducible refine go_halN hHa ?_) | ((with_reducible refine go_halst hH2 ?_ ?_ ?_); rfl; rfl) | (with_reducible refine go_halN hH2 ?_) | ((with_reducible refine go_t ?_ ?_); (show _ = true; rfl)) | ((with_reducible refine go_f ?_ ?_); (show _ = false; rfl)) | (with_reducible refine go_ne ?_) | (with_reducible refine go_eq ?_) | (with_reducible refine go_fad ?_) | (with_reducible refine go_nil ?_))
    rfl
  · obtain ⟨H1, hH1⟩ : ∃ H1, H1 = Ha ++ [some (⟨byt bs, false, 1⟩ : Blk)] := ⟨_, rfl⟩
    have n1 : H1.length = Ha.length + 1 := by rw [hH1]; simp
    have o1 : Old Ha.length Ha H1 := hH1 ▸ Old.app _ _
    have e1 : ∀ (R : Type) (K : Option Addr → Nat → Nat → Heap → Option R), happS 1 1 Ha (some ⟨H.length, 0, none⟩) 0 0 q bs.length K = K (some ⟨Ha.length, 0, none⟩) bs.length unk H1 := fun R K => by
      unfold happS happ
      rw [Nat.mul_one, hc]
      simp only
      rw [if_neg (by unfold unk; omega), if_neg (by omega), if_pos (by omega)]
      have : FW.hcells Ha (some ⟨H.length, 0, none⟩) (0 * 1) = some [] := rfl
      rw [this, hH1]
      simp
    obtain ⟨H2, hH2⟩ : ∃ H2, H2 = H1 ++ [some ⟨[.bool true, .slice (some ⟨Ha.length, 0, none⟩) bs.length unk, .int .i64 0, .int .i64 0], false, 0⟩] := ⟨_, rfl⟩
    have o2 : Old H1.length H1 H2 := hH2 ▸ Old.app _ _
    have O1 : Owns H1 Ha.length (byt bs) 1 := by rw [hH1]; exact hblk_new Ha _
    have O2 : Owns H2 H1.length [.bool true, .slice (some ⟨Ha.length, 0, none⟩) bs.length unk, .int .i64 0, .int .i64 0] 0 := by rw [hH2]; exact hblk_new H1 _
    refine ⟨H1.length, some ⟨Ha.length, 0, none⟩, H2, fun R K => ?_, ⟨⟨unk, O2⟩, (O1.old o2 (by omega)).sees.shows, (fun a ha => by cases ha; simp only; omega), ⟨by simp, by simp, by simp⟩, hb⟩, oa.trans ((o1.trans (o2.mono o1.1)).mono oa.1), by omega, fun a ha => by cases ha; simp only; omega⟩
    unfold R09_NewReader R09_NewReader_b
    repeat (first | (with_reducible refine (e1 _ _).trans ?_) | ((with_reducible refine go_ip (x := ?_) ?_ ?_); rotate_left 1; (first  | rfl)) | ((with_reducible refine go_bp (x := ?_) ?_ ?_); rotate_left 1; (first  | rfl)) | ((with_reducible refine go_lp (x := ?_) (l := ?_) (c := ?_) ?_ ?_); rotate_left 3; (first  | rfl)) | ((with_reducible refine go_pp (x := ?_) ?_ ?_); rotate_left 1; (first  | rfl)) | ((with_reducible refine go_i (x := ?_) ?_ ?_); rotate_left 1; (first  | rfl)) | ((with_reducible refine go_b (x := ?_) ?_ ?_); rotate_left 1; (first  | rfl)) | ((with_reducible refine go_l (x := ?_) (l := ?_) (c := ?_) ?_ ?_); rotate_left 3; (first  | rfl)) | ((with_reducible refine go_p (x := ?_) ?_ ?_); rotate_left 1; (first  | rfl)) | ((with_reducible refine go_halst hHa ?_ ?_ ?_); rfl; rfl) | (with_reducible refine go_halN hHa ?_) | ((with_reducible refine go_halst hH2 ?_ ?_ ?_); rfl; rfl) | (with_reducible refine go_halN hH2 ?_) | ((with_reducible refine go_t ?_ ?_); (show _ = true; rfl)) | ((with_reducible refine go_f ?_ ?_); (show _ = false; rfl)) | (with_reducible refine go_ne ?_) | (with_reducible refine go_eq ?_) | (with_reducible refine go_fad ?_) | (with_reducible refine go_nil ?_))
    rfl
end Go.Proofs.Ytiapgcgpdndkiaa.Sh
