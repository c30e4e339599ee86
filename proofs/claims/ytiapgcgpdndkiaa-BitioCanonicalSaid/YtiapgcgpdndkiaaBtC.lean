/- Bitio: the reference's writer. -/
import Derived.Test.YtiapgcgpdndkiaaBtW
import Derived.Test.YtiapgcgpdndkiaaSh7
set_option linter.unusedVariables false
set_option linter.unusedSimpArgs false
namespace Go.Proofs.Ytiapgcgpdndkiaa.Sh
open Go.Proofs.Ytiapgcgpdndkiaa.FW Go.IntWalk
theorem uPut_eq (k : Nat) {N : Nat} {H : Heap} {p : Nat} {q : Option Addr} {l : List Int} (h : Ur N H p q l) (hN : N ≤ H.length) (hl : l.length < 1000000) (x : Int) :
    ∃ q' H', (∀ (R : Type) (K : Int → Heap → Option R), R09_Writer_Put k (some ⟨p, 0, none⟩) x H K = K (wP x).1 H') ∧ Ur N H' p q' (l ++ (wP x).2) ∧ Stp p q H q' H' := by
  obtain ⟨c, h1, h2⟩ := h.c
  have m : ∀ o, hcell H p o = [Value.bool true, .slice q l.length c][o]? := fun o => h1.sees.cell o
  by_cases hx : x = 0 ∨ x = 1
  · obtain ⟨c', H1, H2, c1, e1, e2, U, S⟩ := h.add hN x hl
    have e : wP x = (0, [x]) := if_pos hx
    have m0 : hcell H p 0 = some (.bool true) := m 0
    rw [e]
    refine ⟨_, H2, fun R K => ?_, U, S⟩
    unfold R09_Writer_Put R09_Writer_Put_b R09_Writer_Put_p0 R09_Writer_Put_p0_b R09_Writer_Put_p1 R09_Writer_Put_p1_b
    have hc : (x != 0) = false ∨ ((x != 0) = true ∧ (x != 1) = false) := by rcases hx with rfl | rfl <;> simp
    rcases hc with hc | ⟨hc, hd⟩
    · repeat (first | (with_reducible refine (e1 _ _).trans ?_) | (with_reducible refine (e2 _ _).trans ?_) | ((with_reducible refine go_ip (x := ?_) ?_ ?_); rotate_left 1; (first | ((with_reducible refine (hcell_new _ _ _).trans ?_); rfl) | exact m0 | exact c1 | rfl)) | ((with_reducible refine go_bp (x := ?_) ?_ ?_); rotate_left 1; (first | ((with_reducible refine (hcell_new _ _ _).trans ?_); rfl) | exact m0 | exact c1 | rfl)) | ((with_reducible refine go_lp (x := ?_) (l := ?_) (c := ?_) ?_ ?_); rotate_left 3; (first | ((with_reducible refine (hcell_new _ _ _).trans ?_); rfl) | exact m0 | exact c1 | rfl)) | ((with_reducible refine go_pp (x := ?_) ?_ ?_); rotate_left 1; (first | ((with_reducible refine (hcell_new _ _ _).trans ?_); rfl) | exact m0 | exact c1 | rfl)) | ((with_reducible refine go_i (x := ?_) ?_ ?_); rotate_left 1; (first | ((with_reducible refine (hcell_new _ _ _).trans ?_); rfl) | exact m0 | exact c1 | rfl)) | ((with_reducible refine go_b (x := ?_) ?_ ?_); rotate_left 1; (first | ((with_reducible refine (hcell_new _ _ _).trans ?_); rfl) | exact m0 | exact c1 | rfl)) | ((with_reducible refine go_l (x := ?_) (l := ?_) (c := ?_) ?_ ?_); rotate_left 3; (first | ((with_reducible refine (hcell_new _ _ _).trans ?_); rfl) | exact m0 | exact c1 | rfl)) | ((with_reducible refine go_p (x := ?_) ?_ ?_); rotate_left 1; (first | ((with_reducible refine (hcell_new _ _ _).trans ?_); rfl) | exact m0 | exact c1 | rfl)) | ((with_reducible refine go_halst rfl ?_ ?_ ?_); rfl; rfl) | (with_reducible refine go_halN rfl ?_) | (with_reducible refine go_t hc ?_) | (with_reducible refine go_f hc ?_) | ((with_reducible refine go_t ?_ ?_); (show _ = true; rfl)) | ((with_reducible refine go_f ?_ ?_); (show _ = false; rfl)) | (with_reducible refine go_ne ?_) | (with_reducible refine go_eq ?_) | (with_reducible refine go_fad ?_) | (with_reducible refine go_nil ?_))
      rfl
    · repeat (first | (with_reducible refine (e1 _ _).trans ?_) | (with_reducible refine (e2 _ _).trans ?_) | ((with_reducible refine go_ip (x := ?_) ?_ ?_); rotate_left 1; (first | ((with_reducible refine (hcell_new _ _ _).trans ?_); rfl) | exact m0 | exact c1 | rfl)) | ((with_reducible refine go_bp (x := ?_) ?_ ?_); rotate_left 1; (first | ((with_reducible refine (hcell_new _ _ _).trans ?_); rfl) | exact m0 | exact c1 | rfl)) | ((with_reducible refine go_lp (x := ?_) (l := ?_) (c := ?_) ?_ ?_); rotate_left 3; (first | ((with_reducible refine (hcell_new _ _ _).trans ?_); rfl) | exact m0 | exact c1 | rfl)) | ((with_reducible refine go_pp (x := ?_) ?_ ?_); rotate_left 1; (first | ((with_reducible refine (hcell_new _ _ _).trans ?_); rfl) | exact m0 | exact c1 | rfl)) | ((with_reducible refine go_i (x := ?_) ?_ ?_); rotate_left 1; (first | ((with_reducible refine (hcell_new _ _ _).trans ?_); rfl) | exact m0 | exact c1 | rfl)) | ((with_reducible refine go_b (x := ?_) ?_ ?_); rotate_left 1; (first | ((with_reducible refine (hcell_new _ _ _).trans ?_); rfl) | exact m0 | exact c1 | rfl)) | ((with_reducible refine go_l (x := ?_) (l := ?_) (c := ?_) ?_ ?_); rotate_left 3; (first | ((with_reducible refine (hcell_new _ _ _).trans ?_); rfl) | exact m0 | exact c1 | rfl)) | ((with_reducible refine go_p (x := ?_) ?_ ?_); rotate_left 1; (first | ((with_reducible refine (hcell_new _ _ _).trans ?_); rfl) | exact m0 | exact c1 | rfl)) | ((with_reducible refine go_halst rfl ?_ ?_ ?_); rfl; rfl) | (with_reducible refine go_halN rfl ?_) | (with_reducible refine go_t hc ?_) | (with_reducible refine go_f hc ?_) | (with_reducible refine go_t hd ?_) | (with_reducible refine go_f hd ?_) | ((with_reducible refine go_t ?_ ?_); (show _ = true; rfl)) | ((with_reducible refine go_f ?_ ?_); (show _ = false; rfl)) | (with_reducible refine go_ne ?_) | (with_reducible refine go_eq ?_) | (with_reducible refine go_fad ?_) | (with_reducible refine go_nil ?_))
      rfl
  · have e : wP x = (1, []) := if_neg hx
    rw [e]
    refine ⟨q, H, fun R K => ?_, by simpa using h, .refl _ _ _⟩
    have hc : (x != 0) = true := by simp; omega
    have hd : (x != 1) = true := by simp; omega
    unfold R09_Writer_Put R09_Writer_Put_b R09_Writer_Put_p0 R09_Writer_Put_p0_b R09_Writer_Put_p1 R09_Writer_Put_p1_b
    repeat (first | ((with_reducible refine go_ip (x := ?_) ?_ ?_); rotate_left 1; (first | ((with_reducible refine (m _).trans ?_); rfl) | rfl)) | ((with_reducible refine go_bp (x := ?_) ?_ ?_); rotate_left 1; (first | ((with_reducible refine (m _).trans ?_); rfl) | rfl)) | ((with_reducible refine go_lp (x := ?_) (l := ?_) (c := ?_) ?_ ?_); rotate_left 3; (first | ((with_reducible refine (m _).trans ?_); rfl) | rfl)) | ((with_reducible refine go_pp (x := ?_) ?_ ?_); rotate_left 1; (first | ((with_reducible refine (m _).trans ?_); rfl) | rfl)) | ((with_reducible refine go_i (x := ?_) ?_ ?_); rotate_left 1; (first | ((with_reducible refine (m _).trans ?_); rfl) | rfl)) | ((with_reducible refine go_b (x := ?_) ?_ ?_); rotate_left 1; (first | ((with_reducible refine (m _).trans ?_); rfl) | rfl)) | ((with_reducible refine go_l (x := ?_) (l := ?_) (c := ?_) ?_ ?_); rotate_left 3; (first | ((with_reducible refine (m _).trans ?_); rfl) | rfl)) | ((with_reducible refine go_p (x := ?_) ?_ ?_); rotate_left 1; (first | ((with_reducible refine (m _).trans ?_); rfl) | rfl)) | ((with_reducible refine go_halst rfl ?_ ?_ ?_); rfl; rfl) | (with_reducible refine go_halN rfl ?_) | (with_reducible refine go_t hc ?_) | (with_reducible refine go_f hc ?_) | (with_reducible refine go_t hd ?_) | (with_reducible refine go_f hd ?_) | ((with_reducible refine go_t ?_ ?_); (show _ = true; rfl)) | ((with_reducible refine go_f ?_ ?_); (show _ = false; rfl)) | (with_reducible refine go_ne ?_) | (with_reducible refine go_eq ?_) | (with_reducible refine go_fad ?_) | (with_reducible refine go_nil ?_))
    rfl
theorem uBits_l (k : Nat) {N p v : Nat} (hv : v < 2 ^ 60) : ∀ (m n : Nat), m < n → m ≤ 33 → ∀ (i : Int), i = (m : Int) - 1 → ∀ (H : Heap) (q : Option Addr) (l : List Int), Ur N H p q l → N ≤ H.length → l.length + m < 1000000 →
    ∃ q' H', (∀ (R : Type) (KE : Heap → Option R), R09_Writer_Bits_l2 k KE n (some ⟨p, 0, none⟩) (v : Int) i H = KE H') ∧ Ur N H' p q' (l ++ bt v m) ∧ Stp p q H q' H' := by
  intro m
  induction m with
  | zero =>
    intro n hn hm i hi H q l h hN hl
    obtain ⟨n, rfl⟩ : ∃ n', n = n' + 1 := ⟨n - 1, by omega⟩
    have ed : decide (i ≥ 0) = false := decide_eq_false (by omega)
    refine ⟨q, H, fun R KE => ?_, by simpa [bt] using h, .refl _ _ _⟩
    unfold R09_Writer_Bits_l2 R09_Writer_Bits_l2_b
    repeat (first | ((with_reducible refine go_ip (x := ?_) ?_ ?_); rotate_left 1; (first  | rfl)) | ((with_reducible refine go_bp (x := ?_) ?_ ?_); rotate_left 1; (first  | rfl)) | ((with_reducible refine go_lp (x := ?_) (l := ?_) (c := ?_) ?_ ?_); rotate_left 3; (first  | rfl)) | ((with_reducible refine go_pp (x := ?_) ?_ ?_); rotate_left 1; (first  | rfl)) | ((with_reducible refine go_i (x := ?_) ?_ ?_); rotate_left 1; (first  | rfl)) | ((with_reducible refine go_b (x := ?_) ?_ ?_); rotate_left 1; (first  | rfl)) | ((with_reducible refine go_l (x := ?_) (l := ?_) (c := ?_) ?_ ?_); rotate_left 3; (first  | rfl)) | ((with_reducible refine go_p (x := ?_) ?_ ?_); rotate_left 1; (first  | rfl)) | ((with_reducible refine go_halst rfl ?_ ?_ ?_); rfl; rfl) | (with_reducible refine go_halN rfl ?_) | (with_reducible refine go_t ed ?_) | (with_reducible refine go_f ed ?_) | ((with_reducible refine go_t ?_ ?_); (show _ = true; rfl)) | ((with_reducible refine go_f ?_ ?_); (show _ = false; rfl)) | (with_reducible refine go_ne ?_) | (with_reducible refine go_eq ?_) | (with_reducible refine go_fad ?_) | (with_reducible refine go_nil ?_))
    rfl
  | succ m ih =>
    intro n hn hm i hi H q l h hN hl
    obtain ⟨n, rfl⟩ : ∃ n', n = n' + 1 := ⟨n - 1, by omega⟩
    obtain rfl : i = (m : Int) := by omega
    have ed : decide ((m : Int) ≥ 0) = true := decide_eq_true (by omega)
    obtain ⟨c', H1, H2, c1, e1, e2, U, S⟩ := h.add hN ((v / 2 ^ m % 2 : Nat) : Int) (by omega)
    obtain ⟨q', H', e3, U3, S3⟩ := ih n (by omega) (by omega) ((m : Int) - 1) rfl H2 _ _ U (by have := S.len; omega) (by rw [List.length_append]; simp only [List.length_cons, List.length_nil]; omega)
    have s1 : ∀ (R : Type) (K : Int → Option R), hbin .shr .i64 (v : Int) (IntKind.wrap .u64 (m : Int)) K = K ((v / 2 ^ m : Nat) : Int) := fun R K => shr64 (by omega) K
    have s2 : ∀ (R : Type) (K : Int → Option R), hbin .and .i64 ((v / 2 ^ m : Nat) : Int) 1 K = K ((v / 2 ^ m % 2 : Nat) : Int) := fun R K => by
      rw [← bit_n]; exact and64 (b := 1) (Nat.lt_of_le_of_lt (Nat.div_le_self _ _) (by omega)) (by omega) K
    have w := w64 (n := (m : Int) - 1) (by omega) (by omega)
    refine ⟨q', H', fun R KE => ?_, by rw [bt]; simpa [List.append_assoc] using U3, S.trans S3⟩
    unfold R09_Writer_Bits_l2 R09_Writer_Bits_l2_b
    repeat (first | (with_reducible refine (s1 _ _).trans ?_) | (with_reducible refine (s2 _ _).trans ?_) | (with_reducible refine (e1 _ _).trans ?_) | (with_reducible refine (e2 _ _).trans ?_) | ((with_reducible refine go_ip (x := ?_) ?_ ?_); rotate_left 1; (first | ((with_reducible refine (hcell_new _ _ _).trans ?_); rfl) | exact c1 | rfl)) | ((with_reducible refine go_bp (x := ?_) ?_ ?_); rotate_left 1; (first | ((with_reducible refine (hcell_new _ _ _).trans ?_); rfl) | exact c1 | rfl)) | ((with_reducible refine go_lp (x := ?_) (l := ?_) (c := ?_) ?_ ?_); rotate_left 3; (first | ((with_reducible refine (hcell_new _ _ _).trans ?_); rfl) | exact c1 | rfl)) | ((with_reducible refine go_pp (x := ?_) ?_ ?_); rotate_left 1; (first | ((with_reducible refine (hcell_new _ _ _).trans ?_); rfl) | exact c1 | rfl)) | ((with_reducible refine go_i (x := ?_) ?_ ?_); rotate_left 1; (first | ((with_reducible refine (hcell_new _ _ _).trans ?_); rfl) | exact c1 | rfl)) | ((with_reducible refine go_b (x := ?_) ?_ ?_); rotate_left 1; (first | ((with_reducible refine (hcell_new _ _ _).trans ?_); rfl) | exact c1 | rfl)) | ((with_reducible refine go_l (x := ?_) (l := ?_) (c := ?_) ?_ ?_); rotate_left 3; (first | ((with_reducible refine (hcell_new _ _ _).trans ?_); rfl) | exact c1 | rfl)) | ((with_reducible refine go_p (x := ?_) ?_ ?_); rotate_left 1; (first | ((with_reducible refine (hcell_new _ _ _).trans ?_); rfl) | exact c1 | rfl)) | ((with_reducible refine go_halst rfl ?_ ?_ ?_); rfl; rfl) | (with_reducible refine go_halN rfl ?_) | (with_reducible refine go_t ed ?_) | (with_reducible refine go_f ed ?_) | ((with_reducible refine go_t ?_ ?_); (show _ = true; rfl)) | ((with_reducible refine go_f ?_ ?_); (show _ = false; rfl)) | (with_reducible refine go_ne ?_) | (with_reducible refine go_eq ?_) | (with_reducible refine go_fad ?_) | (with_reducible refine go_nil ?_))
    try dsimp only
    rw [w]
    exact e3 _ _
theorem uBits_eq {k : Nat} (hk : 1000 < k) {N : Nat} {H : Heap} {p : Nat} {q : Option Addr} {l : List Int} (h : Ur N H p q l) (hN : N ≤ H.length) (hl : l.length < 999000) (v nn : Int) (hv : v ≤ 9223372036854775807) :
    ∃ q' H', (∀ (R : Type) (K : Int → Heap → Option R), R09_Writer_Bits k (some ⟨p, 0, none⟩) v nn H K = K (wB v nn).1 H') ∧ Ur N H' p q' (l ++ (wB v nn).2) ∧ Stp p q H q' H' := by
  obtain ⟨c, h1, h2⟩ := h.c
  have m : ∀ o, hcell H p o = [Value.bool true, .slice q l.length c][o]? := fun o => h1.sees.cell o
  have bad : wB v nn = (1, []) → (∀ (R : Type) (K : Int → Heap → Option R), R09_Writer_Bits k (some ⟨p, 0, none⟩) v nn H K = K 1 H) → ∃ q' H', (∀ (R : Type) (K : Int → Heap → Option R), R09_Writer_Bits k (some ⟨p, 0, none⟩) v nn H K = K (wB v nn).1 H') ∧ Ur N H' p q' (l ++ (wB v nn).2) ∧ Stp p q H q' H' := fun e g => by
    rw [e]; exact ⟨q, H, g, by simpa using h, .refl _ _ _⟩
  by_cases c1 : nn < 0
  · refine bad (if_neg (by omega)) fun R K => ?_
    have d1 := decide_eq_true c1
    unfold R09_Writer_Bits R09_Writer_Bits_b R09_Writer_Bits_p0 R09_Writer_Bits_p0_b R09_Writer_Bits_p1 R09_Writer_Bits_p1_b
    repeat (first | ((with_reducible refine go_ip (x := ?_) ?_ ?_); rotate_left 1; (first | ((with_reducible refine (m _).trans ?_); rfl) | rfl)) | ((with_reducible refine go_bp (x := ?_) ?_ ?_); rotate_left 1; (first | ((with_reducible refine (m _).trans ?_); rfl) | rfl)) | ((with_reducible refine go_lp (x := ?_) (l := ?_) (c := ?_) ?_ ?_); rotate_left 3; (first | ((with_reducible refine (m _).trans ?_); rfl) | rfl)) | ((with_reducible refine go_pp (x := ?_) ?_ ?_); rotate_left 1; (first | ((with_reducible refine (m _).trans ?_); rfl) | rfl)) | ((with_reducible refine go_i (x := ?_) ?_ ?_); rotate_left 1; (first | ((with_reducible refine (m _).trans ?_); rfl) | rfl)) | ((with_reducible refine go_b (x := ?_) ?_ ?_); rotate_left 1; (first | ((with_reducible refine (m _).trans ?_); rfl) | rfl)) | ((with_reducible refine go_l (x := ?_) (l := ?_) (c := ?_) ?_ ?_); rotate_left 3; (first | ((with_reducible refine (m _).trans ?_); rfl) | rfl)) | ((with_reducible refine go_p (x := ?_) ?_ ?_); rotate_left 1; (first | ((with_reducible refine (m _).trans ?_); rfl) | rfl)) | ((with_reducible refine go_halst rfl ?_ ?_ ?_); rfl; rfl) | (with_reducible refine go_halN rfl ?_) | (with_reducible refine go_t d1 ?_) | (with_reducible refine go_f d1 ?_) | ((with_reducible refine go_t ?_ ?_); (show _ = true; rfl)) | ((with_reducible refine go_f ?_ ?_); (show _ = false; rfl)) | (with_reducible refine go_ne ?_) | (with_reducible refine go_eq ?_) | (with_reducible refine go_fad ?_) | (with_reducible refine go_nil ?_))
    rfl
  have d1 := decide_eq_false c1
  by_cases c2 : nn > 32
  · refine bad (if_neg (by omega)) fun R K => ?_
    have d2 := decide_eq_true c2
    unfold R09_Writer_Bits R09_Writer_Bits_b R09_Writer_Bits_p0 R09_Writer_Bits_p0_b R09_Writer_Bits_p1 R09_Writer_Bits_p1_b
    repeat (first | ((with_reducible refine go_ip (x := ?_) ?_ ?_); rotate_left 1; (first | ((with_reducible refine (m _).trans ?_); rfl) | rfl)) | ((with_reducible refine go_bp (x := ?_) ?_ ?_); rotate_left 1; (first | ((with_reducible refine (m _).trans ?_); rfl) | rfl)) | ((with_reducible refine go_lp (x := ?_) (l := ?_) (c := ?_) ?_ ?_); rotate_left 3; (first | ((with_reducible refine (m _).trans ?_); rfl) | rfl)) | ((with_reducible refine go_pp (x := ?_) ?_ ?_); rotate_left 1; (first | ((with_reducible refine (m _).trans ?_); rfl) | rfl)) | ((with_reducible refine go_i (x := ?_) ?_ ?_); rotate_left 1; (first | ((with_reducible refine (m _).trans ?_); rfl) | rfl)) | ((with_reducible refine go_b (x := ?_) ?_ ?_); rotate_left 1; (first | ((with_reducible refine (m _).trans ?_); rfl) | rfl)) | ((with_reducible refine go_l (x := ?_) (l := ?_) (c := ?_) ?_ ?_); rotate_left 3; (first | ((with_reducible refine (m _).trans ?_); rfl) | rfl)) | ((with_reducible refine go_p (x := ?_) ?_ ?_); rotate_left 1; (first | ((with_reducible refine (m _).trans ?_); rfl) | rfl)) | ((with_reducible refine go_halst rfl ?_ ?_ ?_); rfl; rfl) | (with_reducible refine go_halN rfl ?_) | (with_reducible refine go_t d1 ?_) | (with_reducible refine go_f d1 ?_) | (with_reducible refine go_t d2 ?_) | (with_reducible refine go_f d2 ?_) | ((with_reducible refine go_t ?_ ?_); (show _ = true; rfl)) | ((with_reducible refine go_f ?_ ?_); (show _ = false; rfl)) | (with_reducible refine go_ne ?_) | (with_reducible refine go_eq ?_) | (with_reducible refine go_fad ?_) | (with_reducible refine go_nil ?_))
    rfl
  have d2 := decide_eq_false c2
  by_cases c3 : v < 0
  · refine bad (if_neg (by omega)) fun R K => ?_
    have d3 := decide_eq_true c3
    unfold R09_Writer_Bits R09_Writer_Bits_b R09_Writer_Bits_p0 R09_Writer_Bits_p0_b R09_Writer_Bits_p1 R09_Writer_Bits_p1_b
    repeat (first | ((with_reducible refine go_ip (x := ?_) ?_ ?_); rotate_left 1; (first | ((with_reducible refine (m _).trans ?_); rfl) | rfl)) | ((with_reducible refine go_bp (x := ?_) ?_ ?_); rotate_left 1; (first | ((with_reducible refine (m _).trans ?_); rfl) | rfl)) | ((with_reducible refine go_lp (x := ?_) (l := ?_) (c := ?_) ?_ ?_); rotate_left 3; (first | ((with_reducible refine (m _).trans ?_); rfl) | rfl)) | ((with_reducible refine go_pp (x := ?_) ?_ ?_); rotate_left 1; (first | ((with_reducible refine (m _).trans ?_); rfl) | rfl)) | ((with_reducible refine go_i (x := ?_) ?_ ?_); rotate_left 1; (first | ((with_reducible refine (m _).trans ?_); rfl) | rfl)) | ((with_reducible refine go_b (x := ?_) ?_ ?_); rotate_left 1; (first | ((with_reducible refine (m _).trans ?_); rfl) | rfl)) | ((with_reducible refine go_l (x := ?_) (l := ?_) (c := ?_) ?_ ?_); rotate_left 3; (first | ((with_reducible refine (m _).trans ?_); rfl) | rfl)) | ((with_reducible refine go_p (x := ?_) ?_ ?_); rotate_left 1; (first | ((with_reducible refine (m _).trans ?_); rfl) | rfl)) | ((with_reducible refine go_halst rfl ?_ ?_ ?_); rfl; rfl) | (with_reducible refine go_halN rfl ?_) | (with_reducible refine go_t d1 ?_) | (with_reducible refine go_f d1 ?_) | (with_reducible refine go_t d2 ?_) | (with_reducible refine go_f d2 ?_) | (with_reducible refine go_t d3 ?_) | (with_reducible refine go_f d3 ?_) | ((with_reducible refine go_t ?_ ?_); (show _ = true; rfl)) | ((with_reducible refine go_f ?_ ?_); (show _ = false; rfl)) | (with_reducible refine go_ne ?_) | (with_reducible refine go_eq ?_) | (with_reducible refine go_fad ?_) | (with_reducible refine go_nil ?_))
    rfl
  have d3 := decide_eq_false c3
  obtain ⟨n, rfl⟩ : ∃ n : Nat, nn = n := ⟨nn.toNat, by omega⟩
  have hp := p32 (n := n) (by omega)
  have s0 : ∀ (R : Type) (K : Int → Option R), hbin .shl .i64 1 (IntKind.wrap .u64 (n : Int)) K = K ((2 ^ n : Nat) : Int) := fun R K => by
    have := shl64 (a := 1) (n := n) (by omega) (by omega) K
    rwa [Nat.one_mul] at this
  by_cases c4 : v ≥ ((2 ^ n : Nat) : Int)
  · refine bad (if_neg fun hh => ?_) fun R K => ?_
    · have := hh.2.2.2
      rw [Int.toNat_natCast] at this
      have e : ((2 ^ n : Nat) : Int) = 2 ^ n := by rw [Int.natCast_pow]; rfl
      omega
    have d4 := decide_eq_true c4
    unfold R09_Writer_Bits R09_Writer_Bits_b R09_Writer_Bits_p0 R09_Writer_Bits_p0_b R09_Writer_Bits_p1 R09_Writer_Bits_p1_b
    repeat (first | (with_reducible refine (s0 _ _).trans ?_) | ((with_reducible refine go_ip (x := ?_) ?_ ?_); rotate_left 1; (first | ((with_reducible refine (m _).trans ?_); rfl) | rfl)) | ((with_reducible refine go_bp (x := ?_) ?_ ?_); rotate_left 1; (first | ((with_reducible refine (m _).trans ?_); rfl) | rfl)) | ((with_reducible refine go_lp (x := ?_) (l := ?_) (c := ?_) ?_ ?_); rotate_left 3; (first | ((with_reducible refine (m _).trans ?_); rfl) | rfl)) | ((with_reducible refine go_pp (x := ?_) ?_ ?_); rotate_left 1; (first | ((with_reducible refine (m _).trans ?_); rfl) | rfl)) | ((with_reducible refine go_i (x := ?_) ?_ ?_); rotate_left 1; (first | ((with_reducible refine (m _).trans ?_); rfl) | rfl)) | ((with_reducible refine go_b (x := ?_) ?_ ?_); rotate_left 1; (first | ((with_reducible refine (m _).trans ?_); rfl) | rfl)) | ((with_reducible refine go_l (x := ?_) (l := ?_) (c := ?_) ?_ ?_); rotate_left 3; (first | ((with_reducible refine (m _).trans ?_); rfl) | rfl)) | ((with_reducible refine go_p (x := ?_) ?_ ?_); rotate_left 1; (first | ((with_reducible refine (m _).trans ?_); rfl) | rfl)) | ((with_reducible refine go_halst rfl ?_ ?_ ?_); rfl; rfl) | (with_reducible refine go_halN rfl ?_) | (with_reducible refine go_t d1 ?_) | (with_reducible refine go_f d1 ?_) | (with_reducible refine go_t d2 ?_) | (with_reducible refine go_f d2 ?_) | (with_reducible refine go_t d3 ?_) | (with_reducible refine go_f d3 ?_) | (with_reducible refine go_t d4 ?_) | (with_reducible refine go_f d4 ?_) | ((with_reducible refine go_t ?_ ?_); (show _ = true; rfl)) | ((with_reducible refine go_f ?_ ?_); (show _ = false; rfl)) | (with_reducible refine go_ne ?_) | (with_reducible refine go_eq ?_) | (with_reducible refine go_fad ?_) | (with_reducible refine go_nil ?_))
    rfl
  have d4 := decide_eq_false c4
  obtain ⟨u, rfl⟩ : ∃ u : Nat, v = u := ⟨v.toNat, by omega⟩
  have e : wB (u : Int) (n : Int) = (0, bt u n) := by
    have e : ((2 ^ n : Nat) : Int) = 2 ^ n := by rw [Int.natCast_pow]; rfl
    unfold wB
    rw [if_pos ⟨by omega, by omega, by omega, by rw [Int.toNat_natCast]; omega⟩, Int.toNat_natCast, Int.toNat_natCast]
  obtain ⟨q', H', e3, U3, S3⟩ := uBits_l k (N := N) (p := p) (v := u) (by omega) n k (by omega) (by omega) ((n : Int) - 1) rfl H q l h hN (by omega)
  have w := w64 (n := (n : Int) - 1) (by omega) (by omega)
  rw [e]
  refine ⟨q', H', fun R K => ?_, U3, S3⟩
  unfold R09_Writer_Bits R09_Writer_Bits_b R09_Writer_Bits_p0 R09_Writer_Bits_p0_b R09_Writer_Bits_p1 R09_Writer_Bits_p1_b
  repeat (first | (with_reducible refine (s0 _ _).trans ?_) | ((with_reducible refine go_ip (x := ?_) ?_ ?_); rotate_left 1; (first | ((with_reducible refine (m _).trans ?_); rfl) | rfl)) | ((with_reducible refine go_bp (x := ?_) ?_ ?_); rotate_left 1; (first | ((with_reducible refine (m _).trans ?_); rfl) | rfl)) | ((with_reducible refine go_lp (x := ?_) (l := ?_) (c := ?_) ?_ ?_); rotate_left 3; (first | ((with_reducible refine (m _).trans ?_); rfl) | rfl)) | ((with_reducible refine go_pp (x := ?_) ?_ ?_); rotate_left 1; (first | ((with_reducible refine (m _).trans ?_); rfl) | rfl)) | ((with_reducible refine go_i (x := ?_) ?_ ?_); rotate_left 1; (first | ((with_reducible refine (m _).trans ?_); rfl) | rfl)) | ((with_reducible refine go_b (x := ?_) ?_ ?_); rotate_left 1; (first | ((with_reducible refine (m _).trans ?_); rfl) | rfl)) | ((with_reducible refine go_l (x := ?_) (l := ?_) (c := ?_) ?_ ?_); rotate_left 3; (first | ((with_reducible refine (m _).trans ?_); rfl) | rfl)) | ((with_reducible refine go_p (x := ?_) ?_ ?_); rotate_left 1; (first | ((with_reducible refine (m _).trans ?_); rfl) | rfl)) | ((with_reducible refine go_halst rfl ?_ ?_ ?_); rfl; rfl) | (with_reducible refine go_halN rfl ?_) | (with_reducible refine go_t d1 ?_) | (with_reducible refine go_f d1 ?_) | (with_reducible refine go_t d2 ?_) | (with_reducible refine go_f d2 ?_) | (with_reducible refine go_t d3 ?_) | (with_reducible refine go_f d3 ?_) | (with_reducible refine go_t d4 ?_) | (with_reducible refine go_f d4 ?_) | ((with_reducible refine go_t ?_ ?_); (show _ = true; rfl)) | ((with_reducible refine go_f ?_ ?_); (show _ = false; rfl)) | (with_reducible refine go_ne ?_) | (with_reducible refine go_eq ?_) | (with_reducible refine go_fad ?_) | (with_reducible refine go_nil ?_))
  try dsimp only
  rw [w]
  exact e3 _ _
theorem uGam_l (k : Nat) {p v : Nat} (h0 : 1 ≤ v) (hv : v < 2 ^ 32) : ∀ (m n j : Nat), m < n → v.log2 = j + m → ∀ (R : Type) (KE : Option Addr → Int → Int → Option R), R09_Writer_Gamma_l2 k KE n (some ⟨p, 0, none⟩) (v : Int) (j : Int) = KE (some ⟨p, 0, none⟩) (v : Int) ((v.log2 : Nat) : Int) := by
  have hlog : v.log2 < 32 := (Nat.log2_lt (by omega)).2 hv
  intro m
  induction m with
  | zero =>
    intro n j hn hj R KE
    obtain ⟨n, rfl⟩ : ∃ n', n = n' + 1 := ⟨n - 1, by omega⟩
    have w := w64 (n := (j : Int) + 1) (by omega) (by omega)
    have hz : v / 2 ^ (j + 1) = 0 := Nat.div_eq_of_lt ((Nat.log2_lt (by omega)).1 (by omega))
    have s1 : ∀ (R : Type) (K : Int → Option R), hbin .shr .i64 (v : Int) (IntKind.wrap .u64 (IntKind.wrap .i64 ((j : Int) + 1))) K = K 0 := fun R K => by
      try dsimp only
      rw [w]
      have := shr64 (a := v) (n := j + 1) (by omega) K
      rw [hz] at this; exact this
    unfold R09_Writer_Gamma_l2 R09_Writer_Gamma_l2_b
    repeat (first | (with_reducible refine (s1 _ _).trans ?_) | ((with_reducible refine go_ip (x := ?_) ?_ ?_); rotate_left 1; (first  | rfl)) | ((with_reducible refine go_bp (x := ?_) ?_ ?_); rotate_left 1; (first  | rfl)) | ((with_reducible refine go_lp (x := ?_) (l := ?_) (c := ?_) ?_ ?_); rotate_left 3; (first  | rfl)) | ((with_reducible refine go_pp (x := ?_) ?_ ?_); rotate_left 1; (first  | rfl)) | ((with_reducible refine go_i (x := ?_) ?_ ?_); rotate_left 1; (first  | rfl)) | ((with_reducible refine go_b (x := ?_) ?_ ?_); rotate_left 1; (first  | rfl)) | ((with_reducible refine go_l (x := ?_) (l := ?_) (c := ?_) ?_ ?_); rotate_left 3; (first  | rfl)) | ((with_reducible refine go_p (x := ?_) ?_ ?_); rotate_left 1; (first  | rfl)) | ((with_reducible refine go_halst rfl ?_ ?_ ?_); rfl; rfl) | (with_reducible refine go_halN rfl ?_) | ((with_reducible refine go_t ?_ ?_); (show _ = true; rfl)) | ((with_reducible refine go_f ?_ ?_); (show _ = false; rfl)) | (with_reducible refine go_ne ?_) | (with_reducible refine go_eq ?_) | (with_reducible refine go_fad ?_) | (with_reducible refine go_nil ?_))
    rw [hj]; rfl
  | succ m ih =>
    intro n j hn hj R KE
    obtain ⟨n, rfl⟩ : ∃ n', n = n' + 1 := ⟨n - 1, by omega⟩
    have w := w64 (n := (j : Int) + 1) (by omega) (by omega)
    have hz : 1 ≤ v / 2 ^ (j + 1) := (Nat.one_le_div_iff (Nat.two_pow_pos _)).2 ((Nat.le_log2 (by omega)).1 (by omega))
    have s1 : ∀ (R : Type) (K : Int → Option R), hbin .shr .i64 (v : Int) (IntKind.wrap .u64 (IntKind.wrap .i64 ((j : Int) + 1))) K = K ((v / 2 ^ (j + 1) : Nat) : Int) := fun R K => by
      rw [w]; exact shr64 (a := v) (n := j + 1) (by omega) K
    have ed : decide (((v / 2 ^ (j + 1) : Nat) : Int) > 0) = true := decide_eq_true (by omega)
    unfold R09_Writer_Gamma_l2 R09_Writer_Gamma_l2_b
    repeat (first | (with_reducible refine (s1 _ _).trans ?_) | ((with_reducible refine go_ip (x := ?_) ?_ ?_); rotate_left 1; (first  | rfl)) | ((with_reducible refine go_bp (x := ?_) ?_ ?_); rotate_left 1; (first  | rfl)) | ((with_reducible refine go_lp (x := ?_) (l := ?_) (c := ?_) ?_ ?_); rotate_left 3; (first  | rfl)) | ((with_reducible refine go_pp (x := ?_) ?_ ?_); rotate_left 1; (first  | rfl)) | ((with_reducible refine go_i (x := ?_) ?_ ?_); rotate_left 1; (first  | rfl)) | ((with_reducible refine go_b (x := ?_) ?_ ?_); rotate_left 1; (first  | rfl)) | ((with_reducible refine go_l (x := ?_) (l := ?_) (c := ?_) ?_ ?_); rotate_left 3; (first  | rfl)) | ((with_reducible refine go_p (x := ?_) ?_ ?_); rotate_left 1; (first  | rfl)) | ((with_reducible refine go_halst rfl ?_ ?_ ?_); rfl; rfl) | (with_reducible refine go_halN rfl ?_) | (with_reducible refine go_t ed ?_) | (with_reducible refine go_f ed ?_) | ((with_reducible refine go_t ?_ ?_); (show _ = true; rfl)) | ((with_reducible refine go_f ?_ ?_); (show _ = false; rfl)) | (with_reducible refine go_ne ?_) | (with_reducible refine go_eq ?_) | (with_reducible refine go_fad ?_) | (with_reducible refine go_nil ?_))
    try dsimp only
    rw [w]
    exact ih n (j + 1) (by omega) (by omega) R KE
theorem uZer_l (k : Nat) {N p : Nat} (v : Int) (t : Nat) (ht : t < 100000) : ∀ (m n j : Nat), m < n → t = j + m → ∀ (H : Heap) (q : Option Addr) (l : List Int), Ur N H p q l → N ≤ H.length → l.length + m < 1000000 →
    ∃ q' H', (∀ (R : Type) (KE : Option Addr → Int → Int → Heap → Option R), R09_Writer_Gamma_l3 k KE n (some ⟨p, 0, none⟩) v (t : Int) (j : Int) H = KE (some ⟨p, 0, none⟩) v (t : Int) H') ∧ Ur N H' p q' (l ++ List.replicate m 0) ∧ Stp p q H q' H' := by
  intro m
  induction m with
  | zero =>
    intro n j hn hj H q l h hN hl
    obtain ⟨n, rfl⟩ : ∃ n', n = n' + 1 := ⟨n - 1, by omega⟩
    have ed : decide ((j : Int) < (t : Int)) = false := decide_eq_false (by omega)
    refine ⟨q, H, fun R KE => ?_, by simpa using h, .refl _ _ _⟩
    unfold R09_Writer_Gamma_l3 R09_Writer_Gamma_l3_b
    repeat (first | ((with_reducible refine go_ip (x := ?_) ?_ ?_); rotate_left 1; (first  | rfl)) | ((with_reducible refine go_bp (x := ?_) ?_ ?_); rotate_left 1; (first  | rfl)) | ((with_reducible refine go_lp (x := ?_) (l := ?_) (c := ?_) ?_ ?_); rotate_left 3; (first  | rfl)) | ((with_reducible refine go_pp (x := ?_) ?_ ?_); rotate_left 1; (first  | rfl)) | ((with_reducible refine go_i (x := ?_) ?_ ?_); rotate_left 1; (first  | rfl)) | ((with_reducible refine go_b (x := ?_) ?_ ?_); rotate_left 1; (first  | rfl)) | ((with_reducible refine go_l (x := ?_) (l := ?_) (c := ?_) ?_ ?_); rotate_left 3; (first  | rfl)) | ((with_reducible refine go_p (x := ?_) ?_ ?_); rotate_left 1; (first  | rfl)) | ((with_reducible refine go_halst rfl ?_ ?_ ?_); rfl; rfl) | (with_reducible refine go_halN rfl ?_) | (with_reducible refine go_t ed ?_) | (with_reducible refine go_f ed ?_) | ((with_reducible refine go_t ?_ ?_); (show _ = true; rfl)) | ((with_reducible refine go_f ?_ ?_); (show _ = false; rfl)) | (with_reducible refine go_ne ?_) | (with_reducible refine go_eq ?_) | (with_reducible refine go_fad ?_) | (with_reducible refine go_nil ?_))
    rfl
  | succ m ih =>
    intro n j hn hj H q l h hN hl
    obtain ⟨n, rfl⟩ : ∃ n', n = n' + 1 := ⟨n - 1, by omega⟩
    have ed : decide ((j : Int) < (t : Int)) = true := decide_eq_true (by omega)
    obtain ⟨c', H1, H2, c1, e1, e2, U, S⟩ := h.add hN 0 (by omega)
    obtain ⟨q', H', e3, U3, S3⟩ := ih n (j + 1) (by omega) (by omega) H2 _ _ U (by have := S.len; omega) (by rw [List.length_append]; simp only [List.length_cons, List.length_nil]; omega)
    have w := w64 (n := (j : Int) + 1) (by omega) (by omega)
    refine ⟨q', H', fun R KE => ?_, by rw [List.replicate_succ]; simpa [List.append_assoc] using U3, S.trans S3⟩
    unfold R09_Writer_Gamma_l3 R09_Writer_Gamma_l3_b
    repeat (first | (with_reducible refine (e1 _ _).trans ?_) | (with_reducible refine (e2 _ _).trans ?_) | ((with_reducible refine go_ip (x := ?_) ?_ ?_); rotate_left 1; (first | ((with_reducible refine (hcell_new _ _ _).trans ?_); rfl) | exact c1 | rfl)) | ((with_reducible refine go_bp (x := ?_) ?_ ?_); rotate_left 1; (first | ((with_reducible refine (hcell_new _ _ _).trans ?_); rfl) | exact c1 | rfl)) | ((with_reducible refine go_lp (x := ?_) (l := ?_) (c := ?_) ?_ ?_); rotate_left 3; (first | ((with_reducible refine (hcell_new _ _ _).trans ?_); rfl) | exact c1 | rfl)) | ((with_reducible refine go_pp (x := ?_) ?_ ?_); rotate_left 1; (first | ((with_reducible refine (hcell_new _ _ _).trans ?_); rfl) | exact c1 | rfl)) | ((with_reducible refine go_i (x := ?_) ?_ ?_); rotate_left 1; (first | ((with_reducible refine (hcell_new _ _ _).trans ?_); rfl) | exact c1 | rfl)) | ((with_reducible refine go_b (x := ?_) ?_ ?_); rotate_left 1; (first | ((with_reducible refine (hcell_new _ _ _).trans ?_); rfl) | exact c1 | rfl)) | ((with_reducible refine go_l (x := ?_) (l := ?_) (c := ?_) ?_ ?_); rotate_left 3; (first | ((with_reducible refine (hcell_new _ _ _).trans ?_); rfl) | exact c1 | rfl)) | ((with_reducible refine go_p (x := ?_) ?_ ?_); rotate_left 1; (first | ((with_reducible refine (hcell_new _ _ _).trans ?_); rfl) | exact c1 | rfl)) | ((with_reducible refine go_halst rfl ?_ ?_ ?_); rfl; rfl) | (with_reducible refine go_halN rfl ?_) | (with_reducible refine go_t ed ?_) | (with_reducible refine go_f ed ?_) | ((with_reducible refine go_t ?_ ?_); (show _ = true; rfl)) | ((with_reducible refine go_f ?_ ?_); (show _ = false; rfl)) | (with_reducible refine go_ne ?_) | (with_reducible refine go_eq ?_) | (with_reducible refine go_fad ?_) | (with_reducible refine go_nil ?_))
    try dsimp only
    rw [w]
    exact e3 _ _
theorem uGamma_eq {k : Nat} (hk : 1000 < k) {N : Nat} {H : Heap} {p : Nat} {q : Option Addr} {l : List Int} (h : Ur N H p q l) (hN : N ≤ H.length) (hl : l.length < 998000) (v : Int) :
    ∃ q' H', (∀ (R : Type) (K : Int → Heap → Option R), R09_Writer_Gamma k (some ⟨p, 0, none⟩) v H K = K (wG v).1 H') ∧ Ur N H' p q' (l ++ (wG v).2) ∧ Stp p q H q' H' := by
  obtain ⟨c, h1, h2⟩ := h.c
  have m : ∀ o, hcell H p o = [Value.bool true, .slice q l.length c][o]? := fun o => h1.sees.cell o
  have bad : wG v = (1, []) → (∀ (R : Type) (K : Int → Heap → Option R), R09_Writer_Gamma k (some ⟨p, 0, none⟩) v H K = K 1 H) → ∃ q' H', (∀ (R : Type) (K : Int → Heap → Option R), R09_Writer_Gamma k (some ⟨p, 0, none⟩) v H K = K (wG v).1 H') ∧ Ur N H' p q' (l ++ (wG v).2) ∧ Stp p q H q' H' := fun e g => by
    rw [e]; exact ⟨q, H, g, by simpa using h, .refl _ _ _⟩
  by_cases c1 : v < 1
  · refine bad (if_neg (by omega)) fun R K => ?_
    have d1 := decide_eq_true c1
    unfold R09_Writer_Gamma R09_Writer_Gamma_b R09_Writer_Gamma_p0 R09_Writer_Gamma_p0_b R09_Writer_Gamma_p1 R09_Writer_Gamma_p1_b
    repeat (first | ((with_reducible refine go_ip (x := ?_) ?_ ?_); rotate_left 1; (first | ((with_reducible refine (m _).trans ?_); rfl) | rfl)) | ((with_reducible refine go_bp (x := ?_) ?_ ?_); rotate_left 1; (first | ((with_reducible refine (m _).trans ?_); rfl) | rfl)) | ((with_reducible refine go_lp (x := ?_) (l := ?_) (c := ?_) ?_ ?_); rotate_left 3; (first | ((with_reducible refine (m _).trans ?_); rfl) | rfl)) | ((with_reducible refine go_pp (x := ?_) ?_ ?_); rotate_left 1; (first | ((with_reducible refine (m _).trans ?_); rfl) | rfl)) | ((with_reducible refine go_i (x := ?_) ?_ ?_); rotate_left 1; (first | ((with_reducible refine (m _).trans ?_); rfl) | rfl)) | ((with_reducible refine go_b (x := ?_) ?_ ?_); rotate_left 1; (first | ((with_reducible refine (m _).trans ?_); rfl) | rfl)) | ((with_reducible refine go_l (x := ?_) (l := ?_) (c := ?_) ?_ ?_); rotate_left 3; (first | ((with_reducible refine (m _).trans ?_); rfl) | rfl)) | ((with_reducible refine go_p (x := ?_) ?_ ?_); rotate_left 1; (first | ((with_reducible refine (m _).trans ?_); rfl) | rfl)) | ((with_reducible refine go_halst rfl ?_ ?_ ?_); rfl; rfl) | (with_reducible refine go_halN rfl ?_) | (with_reducible refine go_t d1 ?_) | (with_reducible refine go_f d1 ?_) | ((with_reducible refine go_t ?_ ?_); (show _ = true; rfl)) | ((with_reducible refine go_f ?_ ?_); (show _ = false; rfl)) | (with_reducible refine go_ne ?_) | (with_reducible refine go_eq ?_) | (with_reducible refine go_fad ?_) | (with_reducible refine go_nil ?_))
    rfl
  have d1 := decide_eq_false c1
  by_cases c2 : v ≥ 4294967296
  · refine bad (if_neg (by omega)) fun R K => ?_
    have d2 := decide_eq_true c2
    unfold R09_Writer_Gamma R09_Writer_Gamma_b R09_Writer_Gamma_p0 R09_Writer_Gamma_p0_b R09_Writer_Gamma_p1 R09_Writer_Gamma_p1_b
    repeat (first | ((with_reducible refine go_ip (x := ?_) ?_ ?_); rotate_left 1; (first | ((with_reducible refine (m _).trans ?_); rfl) | rfl)) | ((with_reducible refine go_bp (x := ?_) ?_ ?_); rotate_left 1; (first | ((with_reducible refine (m _).trans ?_); rfl) | rfl)) | ((with_reducible refine go_lp (x := ?_) (l := ?_) (c := ?_) ?_ ?_); rotate_left 3; (first | ((with_reducible refine (m _).trans ?_); rfl) | rfl)) | ((with_reducible refine go_pp (x := ?_) ?_ ?_); rotate_left 1; (first | ((with_reducible refine (m _).trans ?_); rfl) | rfl)) | ((with_reducible refine go_i (x := ?_) ?_ ?_); rotate_left 1; (first | ((with_reducible refine (m _).trans ?_); rfl) | rfl)) | ((with_reducible refine go_b (x := ?_) ?_ ?_); rotate_left 1; (first | ((with_reducible refine (m _).trans ?_); rfl) | rfl)) | ((with_reducible refine go_l (x := ?_) (l := ?_) (c := ?_) ?_ ?_); rotate_left 3; (first | ((with_reducible refine (m _).trans ?_); rfl) | rfl)) | ((with_reducible refine go_p (x := ?_) ?_ ?_); rotate_left 1; (first | ((with_reducible refine (m _).trans ?_); rfl) | rfl)) | ((with_reducible refine go_halst rfl ?_ ?_ ?_); rfl; rfl) | (with_reducible refine go_halN rfl ?_) | (with_reducible refine go_t d1 ?_) | (with_reducible refine go_f d1 ?_) | (with_reducible refine go_t d2 ?_) | (with_reducible refine go_f d2 ?_) | ((with_reducible refine go_t ?_ ?_); (show _ = true; rfl)) | ((with_reducible refine go_f ?_ ?_); (show _ = false; rfl)) | (with_reducible refine go_ne ?_) | (with_reducible refine go_eq ?_) | (with_reducible refine go_fad ?_) | (with_reducible refine go_nil ?_))
    rfl
  have d2 := decide_eq_false c2
  obtain ⟨u, rfl⟩ : ∃ u : Nat, v = u := ⟨v.toNat, by omega⟩
  have hlog : u.log2 < 32 := (Nat.log2_lt (by omega)).2 (by omega)
  have g1 := uGam_l k (p := p) (v := u) (by omega) (by omega) u.log2 k 0 (by omega) (by omega)
  simp only [Int.natCast_zero] at g1
  obtain ⟨q1, H1, e1, U1, S1⟩ := uZer_l k (N := N) (p := p) (u : Int) u.log2 (by omega) u.log2 k 0 (by omega) (by omega) H q l h hN (by omega)
  simp only [Int.natCast_zero] at e1
  obtain ⟨q2, H2, e2, U2, S2⟩ := uBits_eq hk U1 (by have := S1.len; omega) (by rw [List.length_append, List.length_replicate]; omega) (u : Int) (((u.log2 + 1 : Nat)) : Int) (by omega)
  have eb : wB (u : Int) (((u.log2 + 1 : Nat)) : Int) = (0, bt u (u.log2 + 1)) := by
    have e : (((2 : Nat) ^ (u.log2 + 1) : Nat) : Int) = 2 ^ (u.log2 + 1) := by rw [Int.natCast_pow]; rfl
    have : u < 2 ^ (u.log2 + 1) := (Nat.log2_lt (by omega)).1 (by omega)
    unfold wB
    rw [if_pos ⟨by omega, by omega, by omega, by rw [Int.toNat_natCast]; omega⟩, Int.toNat_natCast, Int.toNat_natCast]
  have eg : wG (u : Int) = (0, gm u) := by unfold wG; rw [if_pos ⟨by omega, by omega⟩, Int.toNat_natCast]
  rw [eb] at e2 U2
  have w := w64 (n := ((u.log2 : Nat) : Int) + 1) (by omega) (by omega)
  rw [eg]
  refine ⟨q2, H2, fun R K => ?_, by simp only [gm]; rw [← List.append_assoc]; exact U2, S1.trans S2⟩
  unfold R09_Writer_Gamma R09_Writer_Gamma_b R09_Writer_Gamma_p0 R09_Writer_Gamma_p0_b R09_Writer_Gamma_p1 R09_Writer_Gamma_p1_b
  repeat (first | (with_reducible refine (g1 _ _).trans ?_) | (with_reducible refine (e1 _ _).trans ?_) | ((with_reducible refine go_ip (x := ?_) ?_ ?_); rotate_left 1; (first | ((with_reducible refine (m _).trans ?_); rfl) | rfl)) | ((with_reducible refine go_bp (x := ?_) ?_ ?_); rotate_left 1; (first | ((with_reducible refine (m _).trans ?_); rfl) | rfl)) | ((with_reducible refine go_lp (x := ?_) (l := ?_) (c := ?_) ?_ ?_); rotate_left 3; (first | ((with_reducible refine (m _).trans ?_); rfl) | rfl)) | ((with_reducible refine go_pp (x := ?_) ?_ ?_); rotate_left 1; (first | ((with_reducible refine (m _).trans ?_); rfl) | rfl)) | ((with_reducible refine go_i (x := ?_) ?_ ?_); rotate_left 1; (first | ((with_reducible refine (m _).trans ?_); rfl) | rfl)) | ((with_reducible refine go_b (x := ?_) ?_ ?_); rotate_left 1; (first | ((with_reducible refine (m _).trans ?_); rfl) | rfl)) | ((with_reducible refine go_l (x := ?_) (l := ?_) (c := ?_) ?_ ?_); rotate_left 3; (first | ((with_reducible refine (m _).trans ?_); rfl) | rfl)) | ((with_reducible refine go_p (x := ?_) ?_ ?_); rotate_left 1; (first | ((with_reducible refine (m _).trans ?_); rfl) | rfl)) | ((with_reducible refine go_halst rfl ?_ ?_ ?_); rfl; rfl) | (with_reducible refine go_halN rfl ?_) | (with_reducible refine go_t d1 ?_) | (with_reducible refine go_f d1 ?_) | (with_reducible refine go_t d2 ?_) | (with_reducible refine go_f d2 ?_) | ((with_reducible refine go_t ?_ ?_); (show _ = true; rfl)) | ((with_reducible refine go_f ?_ ?_); (show _ = false; rfl)) | (with_reducible refine go_ne ?_) | (with_reducible refine go_eq ?_) | (with_reducible refine go_fad ?_) | (with_reducible refine go_nil ?_))
  try dsimp only
  rw [w]
  exact e2 _ _
theorem uUna_l (k : Nat) {N p : Nat} (t : Nat) (ht : t < 100000) : ∀ (m n j : Nat), m < n → t = j + m → ∀ (H : Heap) (q : Option Addr) (l : List Int), Ur N H p q l → N ≤ H.length → l.length + m < 1000000 →
    ∃ q' H', (∀ (R : Type) (KE : Option Addr → Heap → Option R), R09_Writer_Unary_l2 k KE n (some ⟨p, 0, none⟩) (t : Int) (j : Int) H = KE (some ⟨p, 0, none⟩) H') ∧ Ur N H' p q' (l ++ List.replicate m 1) ∧ Stp p q H q' H' := by
  intro m
  induction m with
  | zero =>
    intro n j hn hj H q l h hN hl
    obtain ⟨n, rfl⟩ : ∃ n', n = n' + 1 := ⟨n - 1, by omega⟩
    have ed : decide ((j : Int) < (t : Int)) = false := decide_eq_false (by omega)
    refine ⟨q, H, fun R KE => ?_, by simpa using h, .refl _ _ _⟩
    unfold R09_Writer_Unary_l2 R09_Writer_Unary_l2_b
    repeat (first | ((with_reducible refine go_ip (x := ?_) ?_ ?_); rotate_left 1; (first  | rfl)) | ((with_reducible refine go_bp (x := ?_) ?_ ?_); rotate_left 1; (first  | rfl)) | ((with_reducible refine go_lp (x := ?_) (l := ?_) (c := ?_) ?_ ?_); rotate_left 3; (first  | rfl)) | ((with_reducible refine go_pp (x := ?_) ?_ ?_); rotate_left 1; (first  | rfl)) | ((with_reducible refine go_i (x := ?_) ?_ ?_); rotate_left 1; (first  | rfl)) | ((with_reducible refine go_b (x := ?_) ?_ ?_); rotate_left 1; (first  | rfl)) | ((with_reducible refine go_l (x := ?_) (l := ?_) (c := ?_) ?_ ?_); rotate_left 3; (first  | rfl)) | ((with_reducible refine go_p (x := ?_) ?_ ?_); rotate_left 1; (first  | rfl)) | ((with_reducible refine go_halst rfl ?_ ?_ ?_); rfl; rfl) | (with_reducible refine go_halN rfl ?_) | (with_reducible refine go_t ed ?_) | (with_reducible refine go_f ed ?_) | ((with_reducible refine go_t ?_ ?_); (show _ = true; rfl)) | ((with_reducible refine go_f ?_ ?_); (show _ = false; rfl)) | (with_reducible refine go_ne ?_) | (with_reducible refine go_eq ?_) | (with_reducible refine go_fad ?_) | (with_reducible refine go_nil ?_))
    rfl
  | succ m ih =>
    intro n j hn hj H q l h hN hl
    obtain ⟨n, rfl⟩ : ∃ n', n = n' + 1 := ⟨n - 1, by omega⟩
    have ed : decide ((j : Int) < (t : Int)) = true := decide_eq_true (by omega)
    obtain ⟨c', H1, H2, c1, e1, e2, U, S⟩ := h.add hN 1 (by omega)
    obtain ⟨q', H', e3, U3, S3⟩ := ih n (j + 1) (by omega) (by omega) H2 _ _ U (by have := S.len; omega) (by rw [List.length_append]; simp only [List.length_cons, List.length_nil]; omega)
    have w := w64 (n := (j : Int) + 1) (by omega) (by omega)
    refine ⟨q', H', fun R KE => ?_, by rw [List.replicate_succ]; simpa [List.append_assoc] using U3, S.trans S3⟩
    unfold R09_Writer_Unary_l2 R09_Writer_Unary_l2_b
    repeat (first | (with_reducible refine (e1 _ _).trans ?_) | (with_reducible refine (e2 _ _).trans ?_) | ((with_reducible refine go_ip (x := ?_) ?_ ?_); rotate_left 1; (first | ((with_reducible refine (hcell_new _ _ _).trans ?_); rfl) | exact c1 | rfl)) | ((with_reducible refine go_bp (x := ?_) ?_ ?_); rotate_left 1; (first | ((with_reducible refine (hcell_new _ _ _).trans ?_); rfl) | exact c1 | rfl)) | ((with_reducible refine go_lp (x := ?_) (l := ?_) (c := ?_) ?_ ?_); rotate_left 3; (first | ((with_reducible refine (hcell_new _ _ _).trans ?_); rfl) | exact c1 | rfl)) | ((with_reducible refine go_pp (x := ?_) ?_ ?_); rotate_left 1; (first | ((with_reducible refine (hcell_new _ _ _).trans ?_); rfl) | exact c1 | rfl)) | ((with_reducible refine go_i (x := ?_) ?_ ?_); rotate_left 1; (first | ((with_reducible refine (hcell_new _ _ _).trans ?_); rfl) | exact c1 | rfl)) | ((with_reducible refine go_b (x := ?_) ?_ ?_); rotate_left 1; (first | ((with_reducible refine (hcell_new _ _ _).trans ?_); rfl) | exact c1 | rfl)) | ((with_reducible refine go_l (x := ?_) (l := ?_) (c := ?_) ?_ ?_); rotate_left 3; (first | ((with_reducible refine (hcell_new _ _ _).trans ?_); rfl) | exact c1 | rfl)) | ((with_reducible refine go_p (x := ?_) ?_ ?_); rotate_left 1; (first | ((with_reducible refine (hcell_new _ _ _).trans ?_); rfl) | exact c1 | rfl)) | ((with_reducible refine go_halst rfl ?_ ?_ ?_); rfl; rfl) | (with_reducible refine go_halN rfl ?_) | (with_reducible refine go_t ed ?_) | (with_reducible refine go_f ed ?_) | ((with_reducible refine go_t ?_ ?_); (show _ = true; rfl)) | ((with_reducible refine go_f ?_ ?_); (show _ = false; rfl)) | (with_reducible refine go_ne ?_) | (with_reducible refine go_eq ?_) | (with_reducible refine go_fad ?_) | (with_reducible refine go_nil ?_))
    try dsimp only
    rw [w]
    exact e3 _ _
theorem uUnary_eq {k : Nat} (hk : 100000 < k) {N : Nat} {H : Heap} {p : Nat} {q : Option Addr} {l : List Int} (h : Ur N H p q l) (hN : N ≤ H.length) (v : Int) (hl2 : l.length < 800000) :
    ∃ q' H', (∀ (R : Type) (K : Int → Heap → Option R), R09_Writer_Unary k (some ⟨p, 0, none⟩) v H K = K (wU v).1 H') ∧ Ur N H' p q' (l ++ (wU v).2) ∧ Stp p q H q' H' := by
  obtain ⟨c, h1, h2⟩ := h.c
  have m : ∀ o, hcell H p o = [Value.bool true, .slice q l.length c][o]? := fun o => h1.sees.cell o
  have bad : wU v = (1, []) → (∀ (R : Type) (K : Int → Heap → Option R), R09_Writer_Unary k (some ⟨p, 0, none⟩) v H K = K 1 H) → ∃ q' H', (∀ (R : Type) (K : Int → Heap → Option R), R09_Writer_Unary k (some ⟨p, 0, none⟩) v H K = K (wU v).1 H') ∧ Ur N H' p q' (l ++ (wU v).2) ∧ Stp p q H q' H' := fun e g => by
    rw [e]; exact ⟨q, H, g, by simpa using h, .refl _ _ _⟩
  by_cases c1 : v < 0
  · refine bad (if_neg (by omega)) fun R K => ?_
    have d1 := decide_eq_true c1
    unfold R09_Writer_Unary R09_Writer_Unary_b R09_Writer_Unary_p0 R09_Writer_Unary_p0_b R09_Writer_Unary_p1 R09_Writer_Unary_p1_b
    repeat (first | ((with_reducible refine go_ip (x := ?_) ?_ ?_); rotate_left 1; (first | ((with_reducible refine (m _).trans ?_); rfl) | rfl)) | ((with_reducible refine go_bp (x := ?_) ?_ ?_); rotate_left 1; (first | ((with_reducible refine (m _).trans ?_); rfl) | rfl)) | ((with_reducible refine go_lp (x := ?_) (l := ?_) (c := ?_) ?_ ?_); rotate_left 3; (first | ((with_reducible refine (m _).trans ?_); rfl) | rfl)) | ((with_reducible refine go_pp (x := ?_) ?_ ?_); rotate_left 1; (first | ((with_reducible refine (m _).trans ?_); rfl) | rfl)) | ((with_reducible refine go_i (x := ?_) ?_ ?_); rotate_left 1; (first | ((with_reducible refine (m _).trans ?_); rfl) | rfl)) | ((with_reducible refine go_b (x := ?_) ?_ ?_); rotate_left 1; (first | ((with_reducible refine (m _).trans ?_); rfl) | rfl)) | ((with_reducible refine go_l (x := ?_) (l := ?_) (c := ?_) ?_ ?_); rotate_left 3; (first | ((with_reducible refine (m _).trans ?_); rfl) | rfl)) | ((with_reducible refine go_p (x := ?_) ?_ ?_); rotate_left 1; (first | ((with_reducible refine (m _).trans ?_); rfl) | rfl)) | ((with_reducible refine go_halst rfl ?_ ?_ ?_); rfl; rfl) | (with_reducible refine go_halN rfl ?_) | (with_reducible refine go_t d1 ?_) | (with_reducible refine go_f d1 ?_) | ((with_reducible refine go_t ?_ ?_); (show _ = true; rfl)) | ((with_reducible refine go_f ?_ ?_); (show _ = false; rfl)) | (with_reducible refine go_ne ?_) | (with_reducible refine go_eq ?_) | (with_reducible refine go_fad ?_) | (with_reducible refine go_nil ?_))
    rfl
  have d1 := decide_eq_false c1
  by_cases c2 : v > 65535
  · refine bad (if_neg (by omega)) fun R K => ?_
    have d2 := decide_eq_true c2
    unfold R09_Writer_Unary R09_Writer_Unary_b R09_Writer_Unary_p0 R09_Writer_Unary_p0_b R09_Writer_Unary_p1 R09_Writer_Unary_p1_b
    repeat (first | ((with_reducible refine go_ip (x := ?_) ?_ ?_); rotate_left 1; (first | ((with_reducible refine (m _).trans ?_); rfl) | rfl)) | ((with_reducible refine go_bp (x := ?_) ?_ ?_); rotate_left 1; (first | ((with_reducible refine (m _).trans ?_); rfl) | rfl)) | ((with_reducible refine go_lp (x := ?_) (l := ?_) (c := ?_) ?_ ?_); rotate_left 3; (first | ((with_reducible refine (m _).trans ?_); rfl) | rfl)) | ((with_reducible refine go_pp (x := ?_) ?_ ?_); rotate_left 1; (first | ((with_reducible refine (m _).trans ?_); rfl) | rfl)) | ((with_reducible refine go_i (x := ?_) ?_ ?_); rotate_left 1; (first | ((with_reducible refine (m _).trans ?_); rfl) | rfl)) | ((with_reducible refine go_b (x := ?_) ?_ ?_); rotate_left 1; (first | ((with_reducible refine (m _).trans ?_); rfl) | rfl)) | ((with_reducible refine go_l (x := ?_) (l := ?_) (c := ?_) ?_ ?_); rotate_left 3; (first | ((with_reducible refine (m _).trans ?_); rfl) | rfl)) | ((with_reducible refine go_p (x := ?_) ?_ ?_); rotate_left 1; (first | ((with_reducible refine (m _).trans ?_); rfl) | rfl)) | ((with_reducible refine go_halst rfl ?_ ?_ ?_); rfl; rfl) | (with_reducible refine go_halN rfl ?_) | (with_reducible refine go_t d1 ?_) | (with_reducible refine go_f d1 ?_) | (with_reducible refine go_t d2 ?_) | (with_reducible refine go_f d2 ?_) | ((with_reducible refine go_t ?_ ?_); (show _ = true; rfl)) | ((with_reducible refine go_f ?_ ?_); (show _ = false; rfl)) | (with_reducible refine go_ne ?_) | (with_reducible refine go_eq ?_) | (with_reducible refine go_fad ?_) | (with_reducible refine go_nil ?_))
    rfl
  have d2 := decide_eq_false c2
  obtain ⟨u, rfl⟩ : ∃ u : Nat, v = u := ⟨v.toNat, by omega⟩
  obtain ⟨q1, H1, g1, U1, S1⟩ := uUna_l k (N := N) (p := p) u (by omega) u k 0 (by omega) (by omega) H q l h hN (by omega)
  simp only [Int.natCast_zero] at g1
  obtain ⟨c', H2, H3, c2', e1, e2, U, S⟩ := U1.add (by have := S1.len; omega) 0 (by rw [List.length_append, List.length_replicate]; omega)
  have eg : wU (u : Int) = (0, List.replicate u 1 ++ [0]) := by unfold wU; rw [if_pos ⟨by omega, by omega⟩, Int.toNat_natCast]
  rw [eg]
  refine ⟨_, H3, fun R K => ?_, by simpa [List.append_assoc] using U, S1.trans S⟩
  unfold R09_Writer_Unary R09_Writer_Unary_b R09_Writer_Unary_p0 R09_Writer_Unary_p0_b R09_Writer_Unary_p1 R09_Writer_Unary_p1_b
  repeat (first | (with_reducible refine (g1 _ _).trans ?_) | (with_reducible refine (e1 _ _).trans ?_) | (with_reducible refine (e2 _ _).trans ?_) | ((with_reducible refine go_ip (x := ?_) ?_ ?_); rotate_left 1; (first | ((with_reducible refine (m _).trans ?_); rfl) | exact c2' | rfl)) | ((with_reducible refine go_bp (x := ?_) ?_ ?_); rotate_left 1; (first | ((with_reducible refine (m _).trans ?_); rfl) | exact c2' | rfl)) | ((with_reducible refine go_lp (x := ?_) (l := ?_) (c := ?_) ?_ ?_); rotate_left 3; (first | ((with_reducible refine (m _).trans ?_); rfl) | exact c2' | rfl)) | ((with_reducible refine go_pp (x := ?_) ?_ ?_); rotate_left 1; (first | ((with_reducible refine (m _).trans ?_); rfl) | exact c2' | rfl)) | ((with_reducible refine go_i (x := ?_) ?_ ?_); rotate_left 1; (first | ((with_reducible refine (m _).trans ?_); rfl) | exact c2' | rfl)) | ((with_reducible refine go_b (x := ?_) ?_ ?_); rotate_left 1; (first | ((with_reducible refine (m _).trans ?_); rfl) | exact c2' | rfl)) | ((with_reducible refine go_l (x := ?_) (l := ?_) (c := ?_) ?_ ?_); rotate_left 3; (first | ((with_reducible refine (m _).trans ?_); rfl) | exact c2' | rfl)) | ((with_reducible refine go_p (x := ?_) ?_ ?_); rotate_left 1; (first | ((with_reducible refine (m _).trans ?_); rfl) | exact c2' | rfl)) | ((with_reducible refine go_halst rfl ?_ ?_ ?_); rfl; rfl) | (with_reducible refine go_halN rfl ?_) | (with_reducible refine go_t d1 ?_) | (with_reducible refine go_f d1 ?_) | (with_reducible refine go_t d2 ?_) | (with_reducible refine go_f d2 ?_) | ((with_reducible refine go_t ?_ ?_); (show _ = true; rfl)) | ((with_reducible refine go_f ?_ ?_); (show _ = false; rfl)) | (with_reducible refine go_ne ?_) | (with_reducible refine go_eq ?_) | (with_reducible refine go_fad ?_) | (with_reducible refine go_nil ?_))
  rfl
theorem uLen_eq (k : Nat) {N : Nat} {H : Heap} {p : Nat} {q : Option Addr} {l : List Int} (h : Ur N H p q l) : ∀ (R : Type) (K : Int → Option R), R09_Writer_Len k (some ⟨p, 0, none⟩) H K = K ((l.length : Nat) : Int) := by
  obtain ⟨c, h1, h2⟩ := h.c
  have m : ∀ o, hcell H p o = [Value.bool true, .slice q l.length c][o]? := fun o => h1.sees.cell o
  intro R K
  unfold R09_Writer_Len R09_Writer_Len_b R09_Writer_Len_p0 R09_Writer_Len_p0_b
  repeat (first | ((with_reducible refine go_ip (x := ?_) ?_ ?_); rotate_left 1; (first | ((with_reducible refine (m _).trans ?_); rfl) | rfl)) | ((with_reducible refine go_bp (x := ?_) ?_ ?_); rotate_left 1; (first | ((with_reducible refine (m _).trans ?_); rfl) | rfl)) | ((with_reducible refine go_lp (x := ?_) (l := ?_) (c := ?_) ?_ ?_); rotate_left 3; (first | ((with_reducible refine (m _).trans ?_); rfl) | rfl)) | ((with_reducible refine go_pp (x := ?_) ?_ ?_); rotate_left 1; (first | ((with_reducible refine (m _).trans ?_); rfl) | rfl)) | ((with_reducible refine go_i (x := ?_) ?_ ?_); rotate_left 1; (first | ((with_reducible refine (m _).trans ?_); rfl) | rfl)) | ((with_reducible refine go_b (x := ?_) ?_ ?_); rotate_left 1; (first | ((with_reducible refine (m _).trans ?_); rfl) | rfl)) | ((with_reducible refine go_l (x := ?_) (l := ?_) (c := ?_) ?_ ?_); rotate_left 3; (first | ((with_reducible refine (m _).trans ?_); rfl) | rfl)) | ((with_reducible refine go_p (x := ?_) ?_ ?_); rotate_left 1; (first | ((with_reducible refine (m _).trans ?_); rfl) | rfl)) | ((with_reducible refine go_halst rfl ?_ ?_ ?_); rfl; rfl) | (with_reducible refine go_halN rfl ?_) | ((with_reducible refine go_t ?_ ?_); (show _ = true; rfl)) | ((with_reducible refine go_f ?_ ?_); (show _ = false; rfl)) | (with_reducible refine go_ne ?_) | (with_reducible refine go_eq ?_) | (with_reducible refine go_fad ?_) | (with_reducible refine go_nil ?_))
  rfl
end Go.Proofs.Ytiapgcgpdndkiaa.Sh
