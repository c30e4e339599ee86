/- Bitio: the program's writer, its calls. -/
import Derived.Test.YtiapgcgpdndkiaaBtD
import Derived.Test.YtiapgcgpdndkiaaBtW
import Derived.Test.YtiapgcgpdndkiaaSh4
set_option linter.unusedVariables false
set_option linter.unusedSimpArgs false
namespace Go.Proofs.Ytiapgcgpdndkiaa.Sh
open Go.Proofs.Ytiapgcgpdndkiaa.FW Go.IntWalk
theorem pPut_eq (k : Nat) {N : Nat} {H : Heap} {p : Nat} {q : Option Addr} {l : List Int} (h : Wr N H p q l) (hN : N ≤ H.length) (hl : l.length < 1000000) (x : Int) :
    ∃ q' H', (∀ (R : Type) (K : Int → Heap → Option R), bitio_Writer_Put k (some ⟨p, 0, none⟩) x H K = K (wP x).1 H') ∧ Wr N H' p q' (l ++ (wP x).2) ∧ Stp p q H q' H' := by
  have o := ok_eq h
  by_cases hx : x = 0 ∨ x = 1
  · obtain ⟨q', H', e1, W, S⟩ := put_eq k h hN hl hx
    have e : wP x = (0, [x]) := if_pos hx
    rw [e]
    refine ⟨_, H', fun R K => ?_, W, S⟩
    unfold bitio_Writer_Put bitio_Writer_Put_b bitio_Writer_Put_p0 bitio_Writer_Put_p0_b
    have hc : (x != 0) = false ∨ ((x != 0) = true ∧ (x != 1) = false) := by rcases hx with rfl | rfl <;> simp
    rcases hc with hc | ⟨hc, hd⟩
    · repeat (first | (with_reducible refine (o _ _).trans ?_) | (with_reducible refine (e1 _ _).trans ?_) | ((with_reducible refine go_ip (x := ?_) ?_ ?_); rotate_left 1; (first  | rfl)) | ((with_reducible refine go_bp (x := ?_) ?_ ?_); rotate_left 1; (first  | rfl)) | ((with_reducible refine go_lp (x := ?_) (l := ?_) (c := ?_) ?_ ?_); rotate_left 3; (first  | rfl)) | ((with_reducible refine go_pp (x := ?_) ?_ ?_); rotate_left 1; (first  | rfl)) | ((with_reducible refine go_i (x := ?_) ?_ ?_); rotate_left 1; (first  | rfl)) | ((with_reducible refine go_b (x := ?_) ?_ ?_); rotate_left 1; (first  | rfl)) | ((with_reducible refine go_l (x := ?_) (l := ?_) (c := ?_) ?_ ?_); rotate_left 3; (first  | rfl)) | ((with_reducible refine go_p (x := ?_) ?_ ?_); rotate_left 1; (first  | rfl)) | ((with_reducible refine go_halst rfl ?_ ?_ ?_); rfl; rfl) | (with_reducible refine go_halN rfl ?_) | (with_reducible refine go_t hc ?_) | (with_reducible refine go_f hc ?_) | ((with_reducible refine go_t ?_ ?_); (show _ = true; rfl)) | ((with_reducible refine go_f ?_ ?_); (show _ = false; rfl)) | (with_reducible refine go_ne ?_) | (with_reducible refine go_eq ?_) | (with_reducible refine go_fad ?_) | (with_reducible refine go_nil ?_))
      rfl
    · repeat (first | (with_reducible refine (o _ _).trans ?_) | (with_reducible refine (e1 _ _).trans ?_) | ((with_reducible refine go_ip (x := ?_) ?_ ?_); rotate_left 1; (first  | rfl)) | ((with_reducible refine go_bp (x := ?_) ?_ ?_); rotate_left 1; (first  | rfl)) | ((with_reducible refine go_lp (x := ?_) (l := ?_) (c := ?_) ?_ ?_); rotate_left 3; (first  | rfl)) | ((with_reducible refine go_pp (x := ?_) ?_ ?_); rotate_left 1; (first  | rfl)) | ((with_reducible refine go_i (x := ?_) ?_ ?_); rotate_left 1; (first  | rfl)) | ((with_reducible refine go_b (x := ?_) ?_ ?_); rotate_left 1; (first  | rfl)) | ((with_reducible refine go_l (x := ?_) (l := ?_) (c := ?_) ?_ ?_); rotate_left 3; (first  | rfl)) | ((with_reducible refine go_p (x := ?_) ?_ ?_); rotate_left 1; (first  | rfl)) | ((with_reducible refine go_halst rfl ?_ ?_ ?_); rfl; rfl) | (with_reducible refine go_halN rfl ?_) | (with_reducible refine go_t hc ?_) | (with_reducible refine go_f hc ?_) | (with_reducible refine go_t hd ?_) | (with_reducible refine go_f hd ?_) | ((with_reducible refine go_t ?_ ?_); (show _ = true; rfl)) | ((with_reducible refine go_f ?_ ?_); (show _ = false; rfl)) | (with_reducible refine go_ne ?_) | (with_reducible refine go_eq ?_) | (with_reducible refine go_fad ?_) | (with_reducible refine go_nil ?_))
      rfl
  · have e : wP x = (1, []) := if_neg hx
    rw [e]
    refine ⟨q, H, fun R K => ?_, by simpa using h, .refl _ _ _⟩
    have hc : (x != 0) = true := by simp; omega
    have hd : (x != 1) = true := by simp; omega
    unfold bitio_Writer_Put bitio_Writer_Put_b bitio_Writer_Put_p0 bitio_Writer_Put_p0_b
    repeat (first | (with_reducible refine (o _ _).trans ?_) | ((with_reducible refine go_ip (x := ?_) ?_ ?_); rotate_left 1; (first  | rfl)) | ((with_reducible refine go_bp (x := ?_) ?_ ?_); rotate_left 1; (first  | rfl)) | ((with_reducible refine go_lp (x := ?_) (l := ?_) (c := ?_) ?_ ?_); rotate_left 3; (first  | rfl)) | ((with_reducible refine go_pp (x := ?_) ?_ ?_); rotate_left 1; (first  | rfl)) | ((with_reducible refine go_i (x := ?_) ?_ ?_); rotate_left 1; (first  | rfl)) | ((with_reducible refine go_b (x := ?_) ?_ ?_); rotate_left 1; (first  | rfl)) | ((with_reducible refine go_l (x := ?_) (l := ?_) (c := ?_) ?_ ?_); rotate_left 3; (first  | rfl)) | ((with_reducible refine go_p (x := ?_) ?_ ?_); rotate_left 1; (first  | rfl)) | ((with_reducible refine go_halst rfl ?_ ?_ ?_); rfl; rfl) | (with_reducible refine go_halN rfl ?_) | (with_reducible refine go_t hc ?_) | (with_reducible refine go_f hc ?_) | (with_reducible refine go_t hd ?_) | (with_reducible refine go_f hd ?_) | ((with_reducible refine go_t ?_ ?_); (show _ = true; rfl)) | ((with_reducible refine go_f ?_ ?_); (show _ = false; rfl)) | (with_reducible refine go_ne ?_) | (with_reducible refine go_eq ?_) | (with_reducible refine go_fad ?_) | (with_reducible refine go_nil ?_))
    rfl
theorem pBits_l (k : Nat) {N p v : Nat} (hv : v < 2 ^ 60) : ∀ (m n : Nat), m < n → m ≤ 33 → ∀ (i : Int), i = (m : Int) - 1 → ∀ (H : Heap) (q : Option Addr) (l : List Int), Wr N H p q l → N ≤ H.length → l.length + m < 1000000 →
    ∃ q' H', (∀ (R : Type) (KE : Heap → Option R), bitio_Writer_Bits_l1 k KE n (some ⟨p, 0, none⟩) (v : Int) i H = KE H') ∧ Wr N H' p q' (l ++ bt v m) ∧ Stp p q H q' H' := by
  intro m
  induction m with
  | zero =>
    intro n hn hm i hi H q l h hN hl
    obtain ⟨n, rfl⟩ : ∃ n', n = n' + 1 := ⟨n - 1, by omega⟩
    have ed : decide (i ≥ 0) = false := decide_eq_false (by omega)
    refine ⟨q, H, fun R KE => ?_, by simpa [bt] using h, .refl _ _ _⟩
    unfold bitio_Writer_Bits_l1 bitio_Writer_Bits_l1_b
    repeat (first | ((with_reducible refine go_ip (x := ?_) ?_ ?_); rotate_left 1; (first  | rfl)) | ((with_reducible refine go_bp (x := ?_) ?_ ?_); rotate_left 1; (first  | rfl)) | ((with_reducible refine go_lp (x := ?_) (l := ?_) (c := ?_) ?_ ?_); rotate_left 3; (first  | rfl)) | ((with_reducible refine go_pp (x := ?_) ?_ ?_); rotate_left 1; (first  | rfl)) | ((with_reducible refine go_i (x := ?_) ?_ ?_); rotate_left 1; (first  | rfl)) | ((with_reducible refine go_b (x := ?_) ?_ ?_); rotate_left 1; (first  | rfl)) | ((with_reducible refine go_l (x := ?_) (l := ?_) (c := ?_) ?_ ?_); rotate_left 3; (first  | rfl)) | ((with_reducible refine go_p (x := ?_) ?_ ?_); rotate_left 1; (first  | rfl)) | ((with_reducible refine go_halst rfl ?_ ?_ ?_); rfl; rfl) | (with_reducible refine go_halN rfl ?_) | (with_reducible refine go_t ed ?_) | (with_reducible refine go_f ed ?_) | ((with_reducible refine go_t ?_ ?_); (show _ = true; rfl)) | ((with_reducible refine go_f ?_ ?_); (show _ = false; rfl)) | (with_reducible refine go_ne ?_) | (with_reducible refine go_eq ?_) | (with_reducible refine go_fad ?_) | (with_reducible refine go_nil ?_))
    rfl
  | succ m ih =>
    intro n hn hm i hi H q l h hN hl
    obtain ⟨n, rfl⟩ : ∃ n', n = n' + 1 := ⟨n - 1, by omega⟩
    obtain rfl : i = (m : Int) := by omega
    have ed : decide ((m : Int) ≥ 0) = true := decide_eq_true (by omega)
    obtain ⟨q2, H2, e1, U, S⟩ := put_eq k h hN (by omega) (x := ((v / 2 ^ m % 2 : Nat) : Int)) (by omega)
    obtain ⟨q', H', e3, U3, S3⟩ := ih n (by omega) (by omega) ((m : Int) - 1) rfl H2 _ _ U (by have := S.len; omega) (by rw [List.length_append]; simp only [List.length_cons, List.length_nil]; omega)
    have s1 : ∀ (R : Type) (K : Int → Option R), hbin .shr .i64 (v : Int) (IntKind.wrap .u64 (m : Int)) K = K ((v / 2 ^ m : Nat) : Int) := fun R K => shr64 (by omega) K
    have s2 : ∀ (R : Type) (K : Int → Option R), hbin .and .i64 ((v / 2 ^ m : Nat) : Int) 1 K = K ((v / 2 ^ m % 2 : Nat) : Int) := fun R K => by
      rw [← bit_n]; exact and64 (b := 1) (Nat.lt_of_le_of_lt (Nat.div_le_self _ _) (by omega)) (by omega) K
    have w := w64 (n := (m : Int) - 1) (by omega) (by omega)
    refine ⟨q', H', fun R KE => ?_, by rw [bt]; simpa [List.append_assoc] using U3, S.trans S3⟩
    unfold bitio_Writer_Bits_l1 bitio_Writer_Bits_l1_b
    repeat (first | (with_reducible refine (s1 _ _).trans ?_) | (with_reducible refine (s2 _ _).trans ?_) | (with_reducible refine (e1 _ _).trans ?_) | ((with_reducible refine go_ip (x := ?_) ?_ ?_); rotate_left 1; (first  | rfl)) | ((with_reducible refine go_bp (x := ?_) ?_ ?_); rotate_left 1; (first  | rfl)) | ((with_reducible refine go_lp (x := ?_) (l := ?_) (c := ?_) ?_ ?_); rotate_left 3; (first  | rfl)) | ((with_reducible refine go_pp (x := ?_) ?_ ?_); rotate_left 1; (first  | rfl)) | ((with_reducible refine go_i (x := ?_) ?_ ?_); rotate_left 1; (first  | rfl)) | ((with_reducible refine go_b (x := ?_) ?_ ?_); rotate_left 1; (first  | rfl)) | ((with_reducible refine go_l (x := ?_) (l := ?_) (c := ?_) ?_ ?_); rotate_left 3; (first  | rfl)) | ((with_reducible refine go_p (x := ?_) ?_ ?_); rotate_left 1; (first  | rfl)) | ((with_reducible refine go_halst rfl ?_ ?_ ?_); rfl; rfl) | (with_reducible refine go_halN rfl ?_) | (with_reducible refine go_t ed ?_) | (with_reducible refine go_f ed ?_) | ((with_reducible refine go_t ?_ ?_); (show _ = true; rfl)) | ((with_reducible refine go_f ?_ ?_); (show _ = false; rfl)) | (with_reducible refine go_ne ?_) | (with_reducible refine go_eq ?_) | (with_reducible refine go_fad ?_) | (with_reducible refine go_nil ?_))
    try dsimp only
    rw [w]
    exact e3 _ _
theorem pBits_eq {k : Nat} (hk : 1000 < k) {N : Nat} {H : Heap} {p : Nat} {q : Option Addr} {l : List Int} (h : Wr N H p q l) (hN : N ≤ H.length) (hl : l.length < 999000) (v nn : Int) (hv : v ≤ 9223372036854775807) :
    ∃ q' H', (∀ (R : Type) (K : Int → Heap → Option R), bitio_Writer_Bits k (some ⟨p, 0, none⟩) v nn H K = K (wB v nn).1 H') ∧ Wr N H' p q' (l ++ (wB v nn).2) ∧ Stp p q H q' H' := by
  have o := ok_eq h
  have bad : wB v nn = (1, []) → (∀ (R : Type) (K : Int → Heap → Option R), bitio_Writer_Bits k (some ⟨p, 0, none⟩) v nn H K = K 1 H) → ∃ q' H', (∀ (R : Type) (K : Int → Heap → Option R), bitio_Writer_Bits k (some ⟨p, 0, none⟩) v nn H K = K (wB v nn).1 H') ∧ Wr N H' p q' (l ++ (wB v nn).2) ∧ Stp p q H q' H' := fun e g => by
    rw [e]; exact ⟨q, H, g, by simpa using h, .refl _ _ _⟩
  by_cases c1 : nn < 0
  · refine bad (if_neg (by omega)) fun R K => ?_
    have d1 := decide_eq_true c1
    unfold bitio_Writer_Bits bitio_Writer_Bits_b bitio_Writer_Bits_p0 bitio_Writer_Bits_p0_b
    repeat (first | (with_reducible refine (o _ _).trans ?_) | ((with_reducible refine go_ip (x := ?_) ?_ ?_); rotate_left 1; (first  | rfl)) | ((with_reducible refine go_bp (x := ?_) ?_ ?_); rotate_left 1; (first  | rfl)) | ((with_reducible refine go_lp (x := ?_) (l := ?_) (c := ?_) ?_ ?_); rotate_left 3; (first  | rfl)) | ((with_reducible refine go_pp (x := ?_) ?_ ?_); rotate_left 1; (first  | rfl)) | ((with_reducible refine go_i (x := ?_) ?_ ?_); rotate_left 1; (first  | rfl)) | ((with_reducible refine go_b (x := ?_) ?_ ?_); rotate_left 1; (first  | rfl)) | ((with_reducible refine go_l (x := ?_) (l := ?_) (c := ?_) ?_ ?_); rotate_left 3; (first  | rfl)) | ((with_reducible refine go_p (x := ?_) ?_ ?_); rotate_left 1; (first  | rfl)) | ((with_reducible refine go_halst rfl ?_ ?_ ?_); rfl; rfl) | (with_reducible refine go_halN rfl ?_) | (with_reducible refine go_t d1 ?_) | (with_reducible refine go_f d1 ?_) | ((with_reducible refine go_t ?_ ?_); (show _ = true; rfl)) | ((with_reducible refine go_f ?_ ?_); (show _ = false; rfl)) | (with_reducible refine go_ne ?_) | (with_reducible refine go_eq ?_) | (with_reducible refine go_fad ?_) | (with_reducible refine go_nil ?_))
    rfl
  have d1 := decide_eq_false c1
  by_cases c2 : nn > 32
  · refine bad (if_neg (by omega)) fun R K => ?_
    have d2 := decide_eq_true c2
    unfold bitio_Writer_Bits bitio_Writer_Bits_b bitio_Writer_Bits_p0 bitio_Writer_Bits_p0_b
    repeat (first | (with_reducible refine (o _ _).trans ?_) | ((with_reducible refine go_ip (x := ?_) ?_ ?_); rotate_left 1; (first  | rfl)) | ((with_reducible refine go_bp (x := ?_) ?_ ?_); rotate_left 1; (first  | rfl)) | ((with_reducible refine go_lp (x := ?_) (l := ?_) (c := ?_) ?_ ?_); rotate_left 3; (first  | rfl)) | ((with_reducible refine go_pp (x := ?_) ?_ ?_); rotate_left 1; (first  | rfl)) | ((with_reducible refine go_i (x := ?_) ?_ ?_); rotate_left 1; (first  | rfl)) | ((with_reducible refine go_b (x := ?_) ?_ ?_); rotate_left 1; (first  | rfl)) | ((with_reducible refine go_l (x := ?_) (l := ?_) (c := ?_) ?_ ?_); rotate_left 3; (first  | rfl)) | ((with_reducible refine go_p (x := ?_) ?_ ?_); rotate_left 1; (first  | rfl)) | ((with_reducible refine go_halst rfl ?_ ?_ ?_); rfl; rfl) | (with_reducible refine go_halN rfl ?_) | (with_reducible refine go_t d1 ?_) | (with_reducible refine go_f d1 ?_) | (with_reducible refine go_t d2 ?_) | (with_reducible refine go_f d2 ?_) | ((with_reducible refine go_t ?_ ?_); (show _ = true; rfl)) | ((with_reducible refine go_f ?_ ?_); (show _ = false; rfl)) | (with_reducible refine go_ne ?_) | (with_reducible refine go_eq ?_) | (with_reducible refine go_fad ?_) | (with_reducible refine go_nil ?_))
    rfl
  have d2 := decide_eq_false c2
  by_cases c3 : v < 0
  · refine bad (if_neg (by omega)) fun R K => ?_
    have d3 := decide_eq_true c3
    unfold bitio_Writer_Bits bitio_Writer_Bits_b bitio_Writer_Bits_p0 bitio_Writer_Bits_p0_b
    repeat (first | (with_reducible refine (o _ _).trans ?_) | ((with_reducible refine go_ip (x := ?_) ?_ ?_); rotate_left 1; (first  | rfl)) | ((with_reducible refine go_bp (x := ?_) ?_ ?_); rotate_left 1; (first  | rfl)) | ((with_reducible refine go_lp (x := ?_) (l := ?_) (c := ?_) ?_ ?_); rotate_left 3; (first  | rfl)) | ((with_reducible refine go_pp (x := ?_) ?_ ?_); rotate_left 1; (first  | rfl)) | ((with_reducible refine go_i (x := ?_) ?_ ?_); rotate_left 1; (first  | rfl)) | ((with_reducible refine go_b (x := ?_) ?_ ?_); rotate_left 1; (first  | rfl)) | ((with_reducible refine go_l (x := ?_) (l := ?_) (c := ?_) ?_ ?_); rotate_left 3; (first  | rfl)) | ((with_reducible refine go_p (x := ?_) ?_ ?_); rotate_left 1; (first  | rfl)) | ((with_reducible refine go_halst rfl ?_ ?_ ?_); rfl; rfl) | (with_reducible refine go_halN rfl ?_) | (with_reducible refine go_t d1 ?_) | (with_reducible refine go_f d1 ?_) | (with_reducible refine go_t d2 ?_) | (with_reducible refine go_f d2 ?_) | (with_reducible refine go_t d3 ?_) | (with_reducible refine go_f d3 ?_) | ((with_reducible refine go_t ?_ ?_); (show _ = true; rfl)) | ((with_reducible refine go_f ?_ ?_); (show _ = false; rfl)) | (with_reducible refine go_ne ?_) | (with_reducible refine go_eq ?_) | (with_reducible refine go_fad ?_) | (with_reducible refine go_nil ?_))
    rfl
  have d3 := decide_eq_false c3
  obtain ⟨n, rfl⟩ : ∃ n : Nat, nn = n := ⟨nn.toNat, by omega⟩
  have hp := p32 (n := n) (by omega)
  have s0 : ∀ (R : Type) (K : Int → Option R), hbin .shl .i64 1 (IntKind.wrap .u64 (n : Int)) K = K ((2 ^ n : Nat) : Int) := fun R K => by
    have := shl64 (a := 1) (n := n) (by omega) (by omega) K
    rwa [Nat.one_mul] at this
  by_cases c4 : v ≥ ((2 ^ n : Nat) : Int)
  · refine bad (if_neg fun hh => ?_) fun R K => ?_
    · have := hh.2.2.2
      rw [Int.toNat_natCast] at this
      have e : ((2 ^ n : Nat) : Int) = 2 ^ n := by rw [Int.natCast_pow]; rfl
      omega
    have d4 := decide_eq_true c4
    unfold bitio_Writer_Bits bitio_Writer_Bits_b bitio_Writer_Bits_p0 bitio_Writer_Bits_p0_b
    repeat (first | (with_reducible refine (o _ _).trans ?_) | (with_reducible refine (s0 _ _).trans ?_) | ((with_reducible refine go_ip (x := ?_) ?_ ?_); rotate_left 1; (first  | rfl)) | ((with_reducible refine go_bp (x := ?_) ?_ ?_); rotate_left 1; (first  | rfl)) | ((with_reducible refine go_lp (x := ?_) (l := ?_) (c := ?_) ?_ ?_); rotate_left 3; (first  | rfl)) | ((with_reducible refine go_pp (x := ?_) ?_ ?_); rotate_left 1; (first  | rfl)) | ((with_reducible refine go_i (x := ?_) ?_ ?_); rotate_left 1; (first  | rfl)) | ((with_reducible refine go_b (x := ?_) ?_ ?_); rotate_left 1; (first  | rfl)) | ((with_reducible refine go_l (x := ?_) (l := ?_) (c := ?_) ?_ ?_); rotate_left 3; (first  | rfl)) | ((with_reducible refine go_p (x := ?_) ?_ ?_); rotate_left 1; (first  | rfl)) | ((with_reducible refine go_halst rfl ?_ ?_ ?_); rfl; rfl) | (with_reducible refine go_halN rfl ?_) | (with_reducible refine go_t d1 ?_) | (with_reducible refine go_f d1 ?_) | (with_reducible refine go_t d2 ?_) | (with_reducible refine go_f d2 ?_) | (with_reducible refine go_t d3 ?_) | (with_reducible refine go_f d3 ?_) | (with_reducible refine go_t d4 ?_) | (with_reducible refine go_f d4 ?_) | ((with_reducible refine go_t ?_ ?_); (show _ = true; rfl)) | ((with_reducible refine go_f ?_ ?_); (show _ = false; rfl)) | (with_reducible refine go_ne ?_) | (with_reducible refine go_eq ?_) | (with_reducible refine go_fad ?_) | (with_reducible refine go_nil ?_))
    rfl
  have d4 := decide_eq_false c4
  obtain ⟨u, rfl⟩ : ∃ u : Nat, v = u := ⟨v.toNat, by omega⟩
  have e : wB (u : Int) (n : Int) = (0, bt u n) := by
    have e : ((2 ^ n : Nat) : Int) = 2 ^ n := by rw [Int.natCast_pow]; rfl
    unfold wB
    rw [if_pos ⟨by omega, by omega, by omega, by rw [Int.toNat_natCast]; omega⟩, Int.toNat_natCast, Int.toNat_natCast]
  obtain ⟨q', H', e3, U3, S3⟩ := pBits_l k (N := N) (p := p) (v := u) (by omega) n k (by omega) (by omega) ((n : Int) - 1) rfl H q l h hN (by omega)
  have w := w64 (n := (n : Int) - 1) (by omega) (by omega)
  rw [e]
  refine ⟨q', H', fun R K => ?_, U3, S3⟩
  unfold bitio_Writer_Bits bitio_Writer_Bits_b bitio_Writer_Bits_p0 bitio_Writer_Bits_p0_b
  repeat (first | (with_reducible refine (o _ _).trans ?_) | (with_reducible refine (s0 _ _).trans ?_) | ((with_reducible refine go_ip (x := ?_) ?_ ?_); rotate_left 1; (first  | rfl)) | ((with_reducible refine go_bp (x := ?_) ?_ ?_); rotate_left 1; (first  | rfl)) | ((with_reducible refine go_lp (x := ?_) (l := ?_) (c := ?_) ?_ ?_); rotate_left 3; (first  | rfl)) | ((with_reducible refine go_pp (x := ?_) ?_ ?_); rotate_left 1; (first  | rfl)) | ((with_reducible refine go_i (x := ?_) ?_ ?_); rotate_left 1; (first  | rfl)) | ((with_reducible refine go_b (x := ?_) ?_ ?_); rotate_left 1; (first  | rfl)) | ((with_reducible refine go_l (x := ?_) (l := ?_) (c := ?_) ?_ ?_); rotate_left 3; (first  | rfl)) | ((with_reducible refine go_p (x := ?_) ?_ ?_); rotate_left 1; (first  | rfl)) | ((with_reducible refine go_halst rfl ?_ ?_ ?_); rfl; rfl) | (with_reducible refine go_halN rfl ?_) | (with_reducible refine go_t d1 ?_) | (with_reducible refine go_f d1 ?_) | (with_reducible refine go_t d2 ?_) | (with_reducible refine go_f d2 ?_) | (with_reducible refine go_t d3 ?_) | (with_reducible refine go_f d3 ?_) | (with_reducible refine go_t d4 ?_) | (with_reducible refine go_f d4 ?_) | ((with_reducible refine go_t ?_ ?_); (show _ = true; rfl)) | ((with_reducible refine go_f ?_ ?_); (show _ = false; rfl)) | (with_reducible refine go_ne ?_) | (with_reducible refine go_eq ?_) | (with_reducible refine go_fad ?_) | (with_reducible refine go_nil ?_))
  try dsimp only
  rw [w]
  exact e3 _ _
theorem pGam_l (k : Nat) {p v : Nat} (h0 : 1 ≤ v) (hv : v < 2 ^ 32) : ∀ (m n j : Nat), m < n → v.log2 = j + m → ∀ (R : Type) (KE : Option Addr → Int → Int → Option R), bitio_Writer_Gamma_l1 k KE n (some ⟨p, 0, none⟩) (v : Int) (j : Int) = KE (some ⟨p, 0, none⟩) (v : Int) ((v.log2 : Nat) : Int) := by
  have hlog : v.log2 < 32 := (Nat.log2_lt (by omega)).2 hv
  intro m
  induction m with
  | zero =>
    intro n j hn hj R KE
    obtain ⟨n, rfl⟩ : ∃ n', n = n' + 1 := ⟨n - 1, by omega⟩
    have s1 : ∀ (R : Type) (K : Int → Option R), hbin .shr .i64 (v : Int) (IntKind.wrap .u64 (j : Int)) K = K ((v / 2 ^ j : Nat) : Int) := fun R K => shr64 (by omega) K
    have hz : v / 2 ^ j < 2 := by
      rw [Nat.div_lt_iff_lt_mul (Nat.two_pow_pos _), ← Nat.pow_succ']
      exact (Nat.log2_lt (by omega)).1 (by omega)
    have ed : decide (((v / 2 ^ j : Nat) : Int) > 1) = false := decide_eq_false (by omega)
    unfold bitio_Writer_Gamma_l1 bitio_Writer_Gamma_l1_b
    repeat (first | (with_reducible refine (s1 _ _).trans ?_) | ((with_reducible refine go_ip (x := ?_) ?_ ?_); rotate_left 1; (first  | rfl)) | ((with_reducible refine go_bp (x := ?_) ?_ ?_); rotate_left 1; (first  | rfl)) | ((with_reducible refine go_lp (x := ?_) (l := ?_) (c := ?_) ?_ ?_); rotate_left 3; (first  | rfl)) | ((with_reducible refine go_pp (x := ?_) ?_ ?_); rotate_left 1; (first  | rfl)) | ((with_reducible refine go_i (x := ?_) ?_ ?_); rotate_left 1; (first  | rfl)) | ((with_reducible refine go_b (x := ?_) ?_ ?_); rotate_left 1; (first  | rfl)) | ((with_reducible refine go_l (x := ?_) (l := ?_) (c := ?_) ?_ ?_); rotate_left 3; (first  | rfl)) | ((with_reducible refine go_p (x := ?_) ?_ ?_); rotate_left 1; (first  | rfl)) | ((with_reducible refine go_halst rfl ?_ ?_ ?_); rfl; rfl) | (with_reducible refine go_halN rfl ?_) | (with_reducible refine go_t ed ?_) | (with_reducible refine go_f ed ?_) | ((with_reducible refine go_t ?_ ?_); (show _ = true; rfl)) | ((with_reducible refine go_f ?_ ?_); (show _ = false; rfl)) | (with_reducible refine go_ne ?_) | (with_reducible refine go_eq ?_) | (with_reducible refine go_fad ?_) | (with_reducible refine go_nil ?_))
    rw [hj]; rfl
  | succ m ih =>
    intro n j hn hj R KE
    obtain ⟨n, rfl⟩ : ∃ n', n = n' + 1 := ⟨n - 1, by omega⟩
    have w := w64 (n := (j : Int) + 1) (by omega) (by omega)
    have s1 : ∀ (R : Type) (K : Int → Option R), hbin .shr .i64 (v : Int) (IntKind.wrap .u64 (j : Int)) K = K ((v / 2 ^ j : Nat) : Int) := fun R K => shr64 (by omega) K
    have hz : 2 ≤ v / 2 ^ j := by
      rw [Nat.le_div_iff_mul_le (Nat.two_pow_pos _), ← Nat.pow_succ']
      exact (Nat.le_log2 (by omega)).1 (by omega)
    have ed : decide (((v / 2 ^ j : Nat) : Int) > 1) = true := decide_eq_true (by omega)
    unfold bitio_Writer_Gamma_l1 bitio_Writer_Gamma_l1_b
    repeat (first | (with_reducible refine (s1 _ _).trans ?_) | ((with_reducible refine go_ip (x := ?_) ?_ ?_); rotate_left 1; (first  | rfl)) | ((with_reducible refine go_bp (x := ?_) ?_ ?_); rotate_left 1; (first  | rfl)) | ((with_reducible refine go_lp (x := ?_) (l := ?_) (c := ?_) ?_ ?_); rotate_left 3; (first  | rfl)) | ((with_reducible refine go_pp (x := ?_) ?_ ?_); rotate_left 1; (first  | rfl)) | ((with_reducible refine go_i (x := ?_) ?_ ?_); rotate_left 1; (first  | rfl)) | ((with_reducible refine go_b (x := ?_) ?_ ?_); rotate_left 1; (first  | rfl)) | ((with_reducible refine go_l (x := ?_) (l := ?_) (c := ?_) ?_ ?_); rotate_left 3; (first  | rfl)) | ((with_reducible refine go_p (x := ?_) ?_ ?_); rotate_left 1; (first  | rfl)) | ((with_reducible refine go_halst rfl ?_ ?_ ?_); rfl; rfl) | (with_reducible refine go_halN rfl ?_) | (with_reducible refine go_t ed ?_) | (with_reducible refine go_f ed ?_) | ((with_reducible refine go_t ?_ ?_); (show _ = true; rfl)) | ((with_reducible refine go_f ?_ ?_); (show _ = false; rfl)) | (with_reducible refine go_ne ?_) | (with_reducible refine go_eq ?_) | (with_reducible refine go_fad ?_) | (with_reducible refine go_nil ?_))
    try dsimp only
    rw [w]
    exact ih n (j + 1) (by omega) (by omega) R KE
theorem pZer_l (k : Nat) {N p : Nat} (v w0 : Int) (t : Nat) (ht : t < 100000) : ∀ (m n j : Nat), m < n → t = j + m → ∀ (H : Heap) (q : Option Addr) (l : List Int), Wr N H p q l → N ≤ H.length → l.length + m < 1000000 →
    ∃ q' H', (∀ (R : Type) (KE : Option Addr → Int → Int → Heap → Option R), bitio_Writer_Gamma_l2 k KE n (some ⟨p, 0, none⟩) v w0 (t : Int) (j : Int) H = KE (some ⟨p, 0, none⟩) v w0 H') ∧ Wr N H' p q' (l ++ List.replicate m 0) ∧ Stp p q H q' H' := by
  intro m
  induction m with
  | zero =>
    intro n j hn hj H q l h hN hl
    obtain ⟨n, rfl⟩ : ∃ n', n = n' + 1 := ⟨n - 1, by omega⟩
    have ed : decide ((j : Int) < (t : Int)) = false := decide_eq_false (by omega)
    refine ⟨q, H, fun R KE => ?_, by simpa using h, .refl _ _ _⟩
    unfold bitio_Writer_Gamma_l2 bitio_Writer_Gamma_l2_b
    repeat (first | ((with_reducible refine go_ip (x := ?_) ?_ ?_); rotate_left 1; (first  | rfl)) | ((with_reducible refine go_bp (x := ?_) ?_ ?_); rotate_left 1; (first  | rfl)) | ((with_reducible refine go_lp (x := ?_) (l := ?_) (c := ?_) ?_ ?_); rotate_left 3; (first  | rfl)) | ((with_reducible refine go_pp (x := ?_) ?_ ?_); rotate_left 1; (first  | rfl)) | ((with_reducible refine go_i (x := ?_) ?_ ?_); rotate_left 1; (first  | rfl)) | ((with_reducible refine go_b (x := ?_) ?_ ?_); rotate_left 1; (first  | rfl)) | ((with_reducible refine go_l (x := ?_) (l := ?_) (c := ?_) ?_ ?_); rotate_left 3; (first  | rfl)) | ((with_reducible refine go_p (x := ?_) ?_ ?_); rotate_left 1; (first  | rfl)) | ((with_reducible refine go_halst rfl ?_ ?_ ?_); rfl; rfl) | (with_reducible refine go_halN rfl ?_) | (with_reducible refine go_t ed ?_) | (with_reducible refine go_f ed ?_) | ((with_reducible refine go_t ?_ ?_); (show _ = true; rfl)) | ((with_reducible refine go_f ?_ ?_); (show _ = false; rfl)) | (with_reducible refine go_ne ?_) | (with_reducible refine go_eq ?_) | (with_reducible refine go_fad ?_) | (with_reducible refine go_nil ?_))
    rfl
  | succ m ih =>
    intro n j hn hj H q l h hN hl
    obtain ⟨n, rfl⟩ : ∃ n', n = n' + 1 := ⟨n - 1, by omega⟩
    have ed : decide ((j : Int) < (t : Int)) = true := decide_eq_true (by omega)
    obtain ⟨q2, H2, e1, U, S⟩ := put_eq k h hN (by omega) (x := 0) (.inl rfl)
    obtain ⟨q', H', e3, U3, S3⟩ := ih n (j + 1) (by omega) (by omega) H2 _ _ U (by have := S.len; omega) (by rw [List.length_append]; simp only [List.length_cons, List.length_nil]; omega)
    have w := w64 (n := (j : Int) + 1) (by omega) (by omega)
    refine ⟨q', H', fun R KE => ?_, by rw [List.replicate_succ]; simpa [List.append_assoc] using U3, S.trans S3⟩
    unfold bitio_Writer_Gamma_l2 bitio_Writer_Gamma_l2_b
    repeat (first | (with_reducible refine (e1 _ _).trans ?_) | ((with_reducible refine go_ip (x := ?_) ?_ ?_); rotate_left 1; (first  | rfl)) | ((with_reducible refine go_bp (x := ?_) ?_ ?_); rotate_left 1; (first  | rfl)) | ((with_reducible refine go_lp (x := ?_) (l := ?_) (c := ?_) ?_ ?_); rotate_left 3; (first  | rfl)) | ((with_reducible refine go_pp (x := ?_) ?_ ?_); rotate_left 1; (first  | rfl)) | ((with_reducible refine go_i (x := ?_) ?_ ?_); rotate_left 1; (first  | rfl)) | ((with_reducible refine go_b (x := ?_) ?_ ?_); rotate_left 1; (first  | rfl)) | ((with_reducible refine go_l (x := ?_) (l := ?_) (c := ?_) ?_ ?_); rotate_left 3; (first  | rfl)) | ((with_reducible refine go_p (x := ?_) ?_ ?_); rotate_left 1; (first  | rfl)) | ((with_reducible refine go_halst rfl ?_ ?_ ?_); rfl; rfl) | (with_reducible refine go_halN rfl ?_) | (with_reducible refine go_t ed ?_) | (with_reducible refine go_f ed ?_) | ((with_reducible refine go_t ?_ ?_); (show _ = true; rfl)) | ((with_reducible refine go_f ?_ ?_); (show _ = false; rfl)) | (with_reducible refine go_ne ?_) | (with_reducible refine go_eq ?_) | (with_reducible refine go_fad ?_) | (with_reducible refine go_nil ?_))
    try dsimp only
    rw [w]
    exact e3 _ _
theorem pGamma_eq {k : Nat} (hk : 1000 < k) {N : Nat} {H : Heap} {p : Nat} {q : Option Addr} {l : List Int} (h : Wr N H p q l) (hN : N ≤ H.length) (hl : l.length < 998000) (v : Int) :
    ∃ q' H', (∀ (R : Type) (K : Int → Heap → Option R), bitio_Writer_Gamma k (some ⟨p, 0, none⟩) v H K = K (wG v).1 H') ∧ Wr N H' p q' (l ++ (wG v).2) ∧ Stp p q H q' H' := by
  have o := ok_eq h
  have bad : wG v = (1, []) → (∀ (R : Type) (K : Int → Heap → Option R), bitio_Writer_Gamma k (some ⟨p, 0, none⟩) v H K = K 1 H) → ∃ q' H', (∀ (R : Type) (K : Int → Heap → Option R), bitio_Writer_Gamma k (some ⟨p, 0, none⟩) v H K = K (wG v).1 H') ∧ Wr N H' p q' (l ++ (wG v).2) ∧ Stp p q H q' H' := fun e g => by
    rw [e]; exact ⟨q, H, g, by simpa using h, .refl _ _ _⟩
  by_cases c1 : v < 1
  · refine bad (if_neg (by omega)) fun R K => ?_
    have d1 := decide_eq_true c1
    unfold bitio_Writer_Gamma bitio_Writer_Gamma_b bitio_Writer_Gamma_p0 bitio_Writer_Gamma_p0_b
    repeat (first | (with_reducible refine (o _ _).trans ?_) | ((with_reducible refine go_ip (x := ?_) ?_ ?_); rotate_left 1; (first  | rfl)) | ((with_reducible refine go_bp (x := ?_) ?_ ?_); rotate_left 1; (first  | rfl)) | ((with_reducible refine go_lp (x := ?_) (l := ?_) (c := ?_) ?_ ?_); rotate_left 3; (first  | rfl)) | ((with_reducible refine go_pp (x := ?_) ?_ ?_); rotate_left 1; (first  | rfl)) | ((with_reducible refine go_i (x := ?_) ?_ ?_); rotate_left 1; (first  | rfl)) | ((with_reducible refine go_b (x := ?_) ?_ ?_); rotate_left 1; (first  | rfl)) | ((with_reducible refine go_l (x := ?_) (l := ?_) (c := ?_) ?_ ?_); rotate_left 3; (first  | rfl)) | ((with_reducible refine go_p (x := ?_) ?_ ?_); rotate_left 1; (first  | rfl)) | ((with_reducible refine go_halst rfl ?_ ?_ ?_); rfl; rfl) | (with_reducible refine go_halN rfl ?_) | (with_reducible refine go_t d1 ?_) | (with_reducible refine go_f d1 ?_) | ((with_reducible refine go_t ?_ ?_); (show _ = true; rfl)) | ((with_reducible refine go_f ?_ ?_); (show _ = false; rfl)) | (with_reducible refine go_ne ?_) | (with_reducible refine go_eq ?_) | (with_reducible refine go_fad ?_) | (with_reducible refine go_nil ?_))
    rfl
  have d1 := decide_eq_false c1
  by_cases c2 : v ≥ 4294967296
  · refine bad (if_neg (by omega)) fun R K => ?_
    have d2 := decide_eq_true c2
    unfold bitio_Writer_Gamma bitio_Writer_Gamma_b bitio_Writer_Gamma_p0 bitio_Writer_Gamma_p0_b
    repeat (first | (with_reducible refine (o _ _).trans ?_) | ((with_reducible refine go_ip (x := ?_) ?_ ?_); rotate_left 1; (first  | rfl)) | ((with_reducible refine go_bp (x := ?_) ?_ ?_); rotate_left 1; (first  | rfl)) | ((with_reducible refine go_lp (x := ?_) (l := ?_) (c := ?_) ?_ ?_); rotate_left 3; (first  | rfl)) | ((with_reducible refine go_pp (x := ?_) ?_ ?_); rotate_left 1; (first  | rfl)) | ((with_reducible refine go_i (x := ?_) ?_ ?_); rotate_left 1; (first  | rfl)) | ((with_reducible refine go_b (x := ?_) ?_ ?_); rotate_left 1; (first  | rfl)) | ((with_reducible refine go_l (x := ?_) (l := ?_) (c := ?_) ?_ ?_); rotate_left 3; (first  | rfl)) | ((with_reducible refine go_p (x := ?_) ?_ ?_); rotate_left 1; (first  | rfl)) | ((with_reducible refine go_halst rfl ?_ ?_ ?_); rfl; rfl) | (with_reducible refine go_halN rfl ?_) | (with_reducible refine go_t d1 ?_) | (with_reducible refine go_f d1 ?_) | (with_reducible refine go_t d2 ?_) | (with_reducible refine go_f d2 ?_) | ((with_reducible refine go_t ?_ ?_); (show _ = true; rfl)) | ((with_reducible refine go_f ?_ ?_); (show _ = false; rfl)) | (with_reducible refine go_ne ?_) | (with_reducible refine go_eq ?_) | (with_reducible refine go_fad ?_) | (with_reducible refine go_nil ?_))
    rfl
  have d2 := decide_eq_false c2
  obtain ⟨u, rfl⟩ : ∃ u : Nat, v = u := ⟨v.toNat, by omega⟩
  have hlog : u.log2 < 32 := (Nat.log2_lt (by omega)).2 (by omega)
  have g1 := pGam_l k (p := p) (v := u) (by omega) (by omega) u.log2 k 0 (by omega) (by omega)
  simp only [Int.natCast_zero] at g1
  obtain ⟨q1, H1, e1, U1, S1⟩ := pZer_l k (N := N) (p := p) (u : Int) ((u.log2 : Nat) : Int) u.log2 (by omega) u.log2 k 0 (by omega) (by omega) H q l h hN (by omega)
  simp only [Int.natCast_zero] at e1
  obtain ⟨q2, H2, e2, U2, S2⟩ := pBits_eq hk U1 (by have := S1.len; omega) (by rw [List.length_append, List.length_replicate]; omega) (u : Int) (((u.log2 + 1 : Nat)) : Int) (by omega)
  have eb : wB (u : Int) (((u.log2 + 1 : Nat)) : Int) = (0, bt u (u.log2 + 1)) := by
    have e : (((2 : Nat) ^ (u.log2 + 1) : Nat) : Int) = 2 ^ (u.log2 + 1) := by rw [Int.natCast_pow]; rfl
    have : u < 2 ^ (u.log2 + 1) := (Nat.log2_lt (by omega)).1 (by omega)
    unfold wB
    rw [if_pos ⟨by omega, by omega, by omega, by rw [Int.toNat_natCast]; omega⟩, Int.toNat_natCast, Int.toNat_natCast]
  have eg : wG (u : Int) = (0, gm u) := by unfold wG; rw [if_pos ⟨by omega, by omega⟩, Int.toNat_natCast]
  rw [eb] at e2 U2
  have w := w64 (n := ((u.log2 : Nat) : Int) + 1) (by omega) (by omega)
  rw [eg]
  refine ⟨q2, H2, fun R K => ?_, by simp only [gm]; rw [← List.append_assoc]; exact U2, S1.trans S2⟩
  unfold bitio_Writer_Gamma bitio_Writer_Gamma_b bitio_Writer_Gamma_p0 bitio_Writer_Gamma_p0_b
  repeat (first | (with_reducible refine (o _ _).trans ?_) | (with_reducible refine (g1 _ _).trans ?_) | (with_reducible refine (e1 _ _).trans ?_) | ((with_reducible refine go_ip (x := ?_) ?_ ?_); rotate_left 1; (first  | rfl)) | ((with_reducible refine go_bp (x := ?_) ?_ ?_); rotate_left 1; (first  | rfl)) | ((with_reducible refine go_lp (x := ?_) (l := ?_) (c := ?_) ?_ ?_); rotate_left 3; (first  | rfl)) | ((with_reducible refine go_pp (x := ?_) ?_ ?_); rotate_left 1; (first  | rfl)) | ((with_reducible refine go_i (x := ?_) ?_ ?_); rotate_left 1; (first  | rfl)) | ((with_reducible refine go_b (x := ?_) ?_ ?_); rotate_left 1; (first  | rfl)) | ((with_reducible refine go_l (x := ?_) (l := ?_) (c := ?_) ?_ ?_); rotate_left 3; (first  | rfl)) | ((with_reducible refine go_p (x := ?_) ?_ ?_); rotate_left 1; (first  | rfl)) | ((with_reducible refine go_halst rfl ?_ ?_ ?_); rfl; rfl) | (with_reducible refine go_halN rfl ?_) | (with_reducible refine go_t d1 ?_) | (with_reducible refine go_f d1 ?_) | (with_reducible refine go_t d2 ?_) | (with_reducible refine go_f d2 ?_) | ((with_reducible refine go_t ?_ ?_); (show _ = true; rfl)) | ((with_reducible refine go_f ?_ ?_); (show _ = false; rfl)) | (with_reducible refine go_ne ?_) | (with_reducible refine go_eq ?_) | (with_reducible refine go_fad ?_) | (with_reducible refine go_nil ?_))
  try dsimp only
  rw [w]
  exact e2 _ _
theorem pUna_l (k : Nat) {N p : Nat} (t : Nat) (ht : t < 100000) : ∀ (m n j : Nat), m < n → t = j + m → ∀ (H : Heap) (q : Option Addr) (l : List Int), Wr N H p q l → N ≤ H.length → l.length + m < 1000000 →
    ∃ q' H', (∀ (R : Type) (KE : Option Addr → Heap → Option R), bitio_Writer_Unary_l1 k KE n (some ⟨p, 0, none⟩) (t : Int) (j : Int) H = KE (some ⟨p, 0, none⟩) H') ∧ Wr N H' p q' (l ++ List.replicate m 1) ∧ Stp p q H q' H' := by
  intro m
  induction m with
  | zero =>
    intro n j hn hj H q l h hN hl
    obtain ⟨n, rfl⟩ : ∃ n', n = n' + 1 := ⟨n - 1, by omega⟩
    have ed : decide ((j : Int) < (t : Int)) = false := decide_eq_false (by omega)
    refine ⟨q, H, fun R KE => ?_, by simpa using h, .refl _ _ _⟩
    unfold bitio_Writer_Unary_l1 bitio_Writer_Unary_l1_b
    repeat (first | ((with_reducible refine go_ip (x := ?_) ?_ ?_); rotate_left 1; (first  | rfl)) | ((with_reducible refine go_bp (x := ?_) ?_ ?_); rotate_left 1; (first  | rfl)) | ((with_reducible refine go_lp (x := ?_) (l := ?_) (c := ?_) ?_ ?_); rotate_left 3; (first  | rfl)) | ((with_reducible refine go_pp (x := ?_) ?_ ?_); rotate_left 1; (first  | rfl)) | ((with_reducible refine go_i (x := ?_) ?_ ?_); rotate_left 1; (first  | rfl)) | ((with_reducible refine go_b (x := ?_) ?_ ?_); rotate_left 1; (first  | rfl)) | ((with_reducible refine go_l (x := ?_) (l := ?_) (c := ?_) ?_ ?_); rotate_left 3; (first  | rfl)) | ((with_reducible refine go_p (x := ?_) ?_ ?_); rotate_left 1; (first  | rfl)) | ((with_reducible refine go_halst rfl ?_ ?_ ?_); rfl; rfl) | (with_reducible refine go_halN rfl ?_) | (with_reducible refine go_t ed ?_) | (with_reducible refine go_f ed ?_) | ((with_reducible refine go_t ?_ ?_); (show _ = true; rfl)) | ((with_reducible refine go_f ?_ ?_); (show _ = false; rfl)) | (with_reducible refine go_ne ?_) | (with_reducible refine go_eq ?_) | (with_reducible refine go_fad ?_) | (with_reducible refine go_nil ?_))
    rfl
  | succ m ih =>
    intro n j hn hj H q l h hN hl
    obtain ⟨n, rfl⟩ : ∃ n', n = n' + 1 := ⟨n - 1, by omega⟩
    have ed : decide ((j : Int) < (t : Int)) = true := decide_eq_true (by omega)
    obtain ⟨q2, H2, e1, U, S⟩ := put_eq k h hN (by omega) (x := 1) (.inr rfl)
    obtain ⟨q', H', e3, U3, S3⟩ := ih n (j + 1) (by omega) (by omega) H2 _ _ U (by have := S.len; omega) (by rw [List.length_append]; simp only [List.length_cons, List.length_nil]; omega)
    have w := w64 (n := (j : Int) + 1) (by omega) (by omega)
    refine ⟨q', H', fun R KE => ?_, by rw [List.replicate_succ]; simpa [List.append_assoc] using U3, S.trans S3⟩
    unfold bitio_Writer_Unary_l1 bitio_Writer_Unary_l1_b
    repeat (first | (with_reducible refine (e1 _ _).trans ?_) | ((with_reducible refine go_ip (x := ?_) ?_ ?_); rotate_left 1; (first  | rfl)) | ((with_reducible refine go_bp (x := ?_) ?_ ?_); rotate_left 1; (first  | rfl)) | ((with_reducible refine go_lp (x := ?_) (l := ?_) (c := ?_) ?_ ?_); rotate_left 3; (first  | rfl)) | ((with_reducible refine go_pp (x := ?_) ?_ ?_); rotate_left 1; (first  | rfl)) | ((with_reducible refine go_i (x := ?_) ?_ ?_); rotate_left 1; (first  | rfl)) | ((with_reducible refine go_b (x := ?_) ?_ ?_); rotate_left 1; (first  | rfl)) | ((with_reducible refine go_l (x := ?_) (l := ?_) (c := ?_) ?_ ?_); rotate_left 3; (first  | rfl)) | ((with_reducible refine go_p (x := ?_) ?_ ?_); rotate_left 1; (first  | rfl)) | ((with_reducible refine go_halst rfl ?_ ?_ ?_); rfl; rfl) | (with_reducible refine go_halN rfl ?_) | (with_reducible refine go_t ed ?_) | (with_reducible refine go_f ed ?_) | ((with_reducible refine go_t ?_ ?_); (show _ = true; rfl)) | ((with_reducible refine go_f ?_ ?_); (show _ = false; rfl)) | (with_reducible refine go_ne ?_) | (with_reducible refine go_eq ?_) | (with_reducible refine go_fad ?_) | (with_reducible refine go_nil ?_))
    try dsimp only
    rw [w]
    exact e3 _ _
theorem pUnary_eq {k : Nat} (hk : 100000 < k) {N : Nat} {H : Heap} {p : Nat} {q : Option Addr} {l : List Int} (h : Wr N H p q l) (hN : N ≤ H.length) (v : Int) (hl2 : l.length < 800000) :
    ∃ q' H', (∀ (R : Type) (K : Int → Heap → Option R), bitio_Writer_Unary k (some ⟨p, 0, none⟩) v H K = K (wU v).1 H') ∧ Wr N H' p q' (l ++ (wU v).2) ∧ Stp p q H q' H' := by
  have o := ok_eq h
  have bad : wU v = (1, []) → (∀ (R : Type) (K : Int → Heap → Option R), bitio_Writer_Unary k (some ⟨p, 0, none⟩) v H K = K 1 H) → ∃ q' H', (∀ (R : Type) (K : Int → Heap → Option R), bitio_Writer_Unary k (some ⟨p, 0, none⟩) v H K = K (wU v).1 H') ∧ Wr N H' p q' (l ++ (wU v).2) ∧ Stp p q H q' H' := fun e g => by
    rw [e]; exact ⟨q, H, g, by simpa using h, .refl _ _ _⟩
  by_cases c1 : v < 0
  · refine bad (if_neg (by omega)) fun R K => ?_
    have d1 := decide_eq_true c1
    unfold bitio_Writer_Unary bitio_Writer_Unary_b bitio_Writer_Unary_p0 bitio_Writer_Unary_p0_b
    repeat (first | (with_reducible refine (o _ _).trans ?_) | ((with_reducible refine go_ip (x := ?_) ?_ ?_); rotate_left 1; (first  | rfl)) | ((with_reducible refine go_bp (x := ?_) ?_ ?_); rotate_left 1; (first  | rfl)) | ((with_reducible refine go_lp (x := ?_) (l := ?_) (c := ?_) ?_ ?_); rotate_left 3; (first  | rfl)) | ((with_reducible refine go_pp (x := ?_) ?_ ?_); rotate_left 1; (first  | rfl)) | ((with_reducible refine go_i (x := ?_) ?_ ?_); rotate_left 1; (first  | rfl)) | ((with_reducible refine go_b (x := ?_) ?_ ?_); rotate_left 1; (first  | rfl)) | ((with_reducible refine go_l (x := ?_) (l := ?_) (c := ?_) ?_ ?_); rotate_left 3; (first  | rfl)) | ((with_reducible refine go_p (x := ?_) ?_ ?_); rotate_left 1; (first  | rfl)) | ((with_reducible refine go_halst rfl ?_ ?_ ?_); rfl; rfl) | (with_reducible refine go_halN rfl ?_) | (with_reducible refine go_t d1 ?_) | (with_reducible refine go_f d1 ?_) | ((with_reducible refine go_t ?_ ?_); (show _ = true; rfl)) | ((with_reducible refine go_f ?_ ?_); (show _ = false; rfl)) | (with_reducible refine go_ne ?_) | (with_reducible refine go_eq ?_) | (with_reducible refine go_fad ?_) | (with_reducible refine go_nil ?_))
    rfl
  have d1 := decide_eq_false c1
  by_cases c2 : v > 65535
  · refine bad (if_neg (by omega)) fun R K => ?_
    have d2 := decide_eq_true c2
    unfold bitio_Writer_Unary bitio_Writer_Unary_b bitio_Writer_Unary_p0 bitio_Writer_Unary_p0_b
    repeat (first | (with_reducible refine (o _ _).trans ?_) | ((with_reducible refine go_ip (x := ?_) ?_ ?_); rotate_left 1; (first  | rfl)) | ((with_reducible refine go_bp (x := ?_) ?_ ?_); rotate_left 1; (first  | rfl)) | ((with_reducible refine go_lp (x := ?_) (l := ?_) (c := ?_) ?_ ?_); rotate_left 3; (first  | rfl)) | ((with_reducible refine go_pp (x := ?_) ?_ ?_); rotate_left 1; (first  | rfl)) | ((with_reducible refine go_i (x := ?_) ?_ ?_); rotate_left 1; (first  | rfl)) | ((with_reducible refine go_b (x := ?_) ?_ ?_); rotate_left 1; (first  | rfl)) | ((with_reducible refine go_l (x := ?_) (l := ?_) (c := ?_) ?_ ?_); rotate_left 3; (first  | rfl)) | ((with_reducible refine go_p (x := ?_) ?_ ?_); rotate_left 1; (first  | rfl)) | ((with_reducible refine go_halst rfl ?_ ?_ ?_); rfl; rfl) | (with_reducible refine go_halN rfl ?_) | (with_reducible refine go_t d1 ?_) | (with_reducible refine go_f d1 ?_) | (with_reducible refine go_t d2 ?_) | (with_reducible refine go_f d2 ?_) | ((with_reducible refine go_t ?_ ?_); (show _ = true; rfl)) | ((with_reducible refine go_f ?_ ?_); (show _ = false; rfl)) | (with_reducible refine go_ne ?_) | (with_reducible refine go_eq ?_) | (with_reducible refine go_fad ?_) | (with_reducible refine go_nil ?_))
    rfl
  have d2 := decide_eq_false c2
  obtain ⟨u, rfl⟩ : ∃ u : Nat, v = u := ⟨v.toNat, by omega⟩
  obtain ⟨q1, H1, g1, U1, S1⟩ := pUna_l k (N := N) (p := p) u (by omega) u k 0 (by omega) (by omega) H q l h hN (by omega)
  simp only [Int.natCast_zero] at g1
  obtain ⟨q2, H2, e1, U, S⟩ := put_eq k U1 (by have := S1.len; omega) (by rw [List.length_append, List.length_replicate]; omega) (x := 0) (.inl rfl)
  have eg : wU (u : Int) = (0, List.replicate u 1 ++ [0]) := by unfold wU; rw [if_pos ⟨by omega, by omega⟩, Int.toNat_natCast]
  rw [eg]
  refine ⟨_, H2, fun R K => ?_, by simpa [List.append_assoc] using U, S1.trans S⟩
  unfold bitio_Writer_Unary bitio_Writer_Unary_b bitio_Writer_Unary_p0 bitio_Writer_Unary_p0_b
  repeat (first | (with_reducible refine (o _ _).trans ?_) | (with_reducible refine (g1 _ _).trans ?_) | (with_reducible refine (e1 _ _).trans ?_) | ((with_reducible refine go_ip (x := ?_) ?_ ?_); rotate_left 1; (first  | rfl)) | ((with_reducible refine go_bp (x := ?_) ?_ ?_); rotate_left 1; (first  | rfl)) | ((with_reducible refine go_lp (x := ?_) (l := ?_) (c := ?_) ?_ ?_); rotate_left 3; (first  | rfl)) | ((with_reducible refine go_pp (x := ?_) ?_ ?_); rotate_left 1; (first  | rfl)) | ((with_reducible refine go_i (x := ?_) ?_ ?_); rotate_left 1; (first  | rfl)) | ((with_reducible refine go_b (x := ?_) ?_ ?_); rotate_left 1; (first  | rfl)) | ((with_reducible refine go_l (x := ?_) (l := ?_) (c := ?_) ?_ ?_); rotate_left 3; (first  | rfl)) | ((with_reducible refine go_p (x := ?_) ?_ ?_); rotate_left 1; (first  | rfl)) | ((with_reducible refine go_halst rfl ?_ ?_ ?_); rfl; rfl) | (with_reducible refine go_halN rfl ?_) | (with_reducible refine go_t d1 ?_) | (with_reducible refine go_f d1 ?_) | (with_reducible refine go_t d2 ?_) | (with_reducible refine go_f d2 ?_) | ((with_reducible refine go_t ?_ ?_); (show _ = true; rfl)) | ((with_reducible refine go_f ?_ ?_); (show _ = false; rfl)) | (with_reducible refine go_ne ?_) | (with_reducible refine go_eq ?_) | (with_reducible refine go_fad ?_) | (with_reducible refine go_nil ?_))
  rfl
/-- A call of a writer. -/
theorem write_eq {k : Nat} (hk : 100000 < k) {N : Nat} {H : Heap} {p : Nat} {q : Option Addr} {l : List Int} (h : Wr N H p q l) (hN : N ≤ H.length) (hl : l.length < 800000) (o : Int × Int × Int) (hv : o.2.1 ≤ 9223372036854775807) :
    ∃ q' H', (∀ (R : Type) (K : Int → Heap → Option R), L_write k (some ⟨p, 0, none⟩) o.1 o.2.1 o.2.2 H K = K (wO o).1 H') ∧ Wr N H' p q' (l ++ (wO o).2) ∧ Stp p q H q' H' := by
  obtain ⟨Hn, hHn⟩ : ∃ Hn, Hn = H ++ [some ⟨[.int .i64 o.1, .int .i64 o.2.1, .int .i64 o.2.2], false, 0⟩] := ⟨_, rfl⟩
  have o1 : Old H.length H Hn := hHn ▸ Old.app _ _
  have S0 : Stp p q H q Hn := .of_old o1
  have hW : Wr N Hn p q l := by
    obtain ⟨c, b, pre, t, e1, e2, e3, h1, h2, e4⟩ := h.c
    exact ⟨⟨c, b, pre, t, e1, e2, e3, h1.old o1 h1.lt, h2.old o1 (Nat.le_refl _), e4⟩, h.low, h.apt, h.b01⟩
  have hN' : N ≤ Hn.length := by have := o1.1; omega
  have m : ∀ i, hcell Hn H.length i = [Value.int .i64 o.1, .int .i64 o.2.1, .int .i64 o.2.2][i]? := fun i => by rw [hHn]; exact hcell_new _ _ _
  by_cases c0 : o.1 = 0
  · obtain ⟨q', H', e1, W, S⟩ := pPut_eq k hW hN' (by omega) o.2.1
    have d0 : (o.1 == 0) = true := by rw [c0]; rfl
    rw [show wO o = wP o.2.1 from if_pos c0]
    refine ⟨q', H', fun R K => ?_, W, S0.trans S⟩
    unfold L_write L_write_b
    repeat (first | (with_reducible refine (e1 _ _).trans ?_) | ((with_reducible refine go_ip (x := ?_) ?_ ?_); rotate_left 1; (first | ((with_reducible refine (m _).trans ?_); rfl) | rfl)) | ((with_reducible refine go_bp (x := ?_) ?_ ?_); rotate_left 1; (first | ((with_reducible refine (m _).trans ?_); rfl) | rfl)) | ((with_reducible refine go_lp (x := ?_) (l := ?_) (c := ?_) ?_ ?_); rotate_left 3; (first | ((with_reducible refine (m _).trans ?_); rfl) | rfl)) | ((with_reducible refine go_pp (x := ?_) ?_ ?_); rotate_left 1; (first | ((with_reducible refine (m _).trans ?_); rfl) | rfl)) | ((with_reducible refine go_i (x := ?_) ?_ ?_); rotate_left 1; (first | ((with_reducible refine (m _).trans ?_); rfl) | rfl)) | ((with_reducible refine go_b (x := ?_) ?_ ?_); rotate_left 1; (first | ((with_reducible refine (m _).trans ?_); rfl) | rfl)) | ((with_reducible refine go_l (x := ?_) (l := ?_) (c := ?_) ?_ ?_); rotate_left 3; (first | ((with_reducible refine (m _).trans ?_); rfl) | rfl)) | ((with_reducible refine go_p (x := ?_) ?_ ?_); rotate_left 1; (first | ((with_reducible refine (m _).trans ?_); rfl) | rfl)) | ((with_reducible refine go_halst hHn ?_ ?_ ?_); rfl; rfl) | (with_reducible refine go_halN hHn ?_) | (with_reducible refine go_t d0 ?_) | (with_reducible refine go_f d0 ?_) | ((with_reducible refine go_t ?_ ?_); (show _ = true; rfl)) | ((with_reducible refine go_f ?_ ?_); (show _ = false; rfl)) | (with_reducible refine go_ne ?_) | (with_reducible refine go_eq ?_) | (with_reducible refine go_fad ?_) | (with_reducible refine go_nil ?_))
    rfl
  have d0 : (o.1 == 0) = false := by simpa using c0
  by_cases c1 : o.1 = 1
  · obtain ⟨q', H', e1, W, S⟩ := pBits_eq (k := k) (by omega) hW hN' (by omega) o.2.1 o.2.2 hv
    have d1 : (o.1 == 1) = true := by rw [c1]; rfl
    rw [show wO o = wB o.2.1 o.2.2 from by unfold wO; rw [if_neg c0, if_pos c1]]
    refine ⟨q', H', fun R K => ?_, W, S0.trans S⟩
    unfold L_write L_write_b
    repeat (first | (with_reducible refine (e1 _ _).trans ?_) | ((with_reducible refine go_ip (x := ?_) ?_ ?_); rotate_left 1; (first | ((with_reducible refine (m _).trans ?_); rfl) | rfl)) | ((with_reducible refine go_bp (x := ?_) ?_ ?_); rotate_left 1; (first | ((with_reducible refine (m _).trans ?_); rfl) | rfl)) | ((with_reducible refine go_lp (x := ?_) (l := ?_) (c := ?_) ?_ ?_); rotate_left 3; (first | ((with_reducible refine (m _).trans ?_); rfl) | rfl)) | ((with_reducible refine go_pp (x := ?_) ?_ ?_); rotate_left 1; (first | ((with_reducible refine (m _).trans ?_); rfl) | rfl)) | ((with_reducible refine go_i (x := ?_) ?_ ?_); rotate_left 1; (first | ((with_reducible refine (m _).trans ?_); rfl) | rfl)) | ((with_reducible refine go_b (x := ?_) ?_ ?_); rotate_left 1; (first | ((with_reducible refine (m _).trans ?_); rfl) | rfl)) | ((with_reducible refine go_l (x := ?_) (l := ?_) (c := ?_) ?_ ?_); rotate_left 3; (first | ((with_reducible refine (m _).trans ?_); rfl) | rfl)) | ((with_reducible refine go_p (x := ?_) ?_ ?_); rotate_left 1; (first | ((with_reducible refine (m _).trans ?_); rfl) | rfl)) | ((with_reducible refine go_halst hHn ?_ ?_ ?_); rfl; rfl) | (with_reducible refine go_halN hHn ?_) | (with_reducible refine go_t d0 ?_) | (with_reducible refine go_f d0 ?_) | (with_reducible refine go_t d1 ?_) | (with_reducible refine go_f d1 ?_) | ((with_reducible refine go_t ?_ ?_); (show _ = true; rfl)) | ((with_reducible refine go_f ?_ ?_); (show _ = false; rfl)) | (with_reducible refine go_ne ?_) | (with_reducible refine go_eq ?_) | (with_reducible refine go_fad ?_) | (with_reducible refine go_nil ?_))
    rfl
  have d1 : (o.1 == 1) = false := by simpa using c1
  by_cases c2 : o.1 = 2
  · obtain ⟨q', H', e1, W, S⟩ := pGamma_eq (k := k) (by omega) hW hN' (by omega) o.2.1
    have d2 : (o.1 == 2) = true := by rw [c2]; rfl
    rw [show wO o = wG o.2.1 from by unfold wO; rw [if_neg c0, if_neg c1, if_pos c2]]
    refine ⟨q', H', fun R K => ?_, W, S0.trans S⟩
    unfold L_write L_write_b
    repeat (first | (with_reducible refine (e1 _ _).trans ?_) | ((with_reducible refine go_ip (x := ?_) ?_ ?_); rotate_left 1; (first | ((with_reducible refine (m _).trans ?_); rfl) | rfl)) | ((with_reducible refine go_bp (x := ?_) ?_ ?_); rotate_left 1; (first | ((with_reducible refine (m _).trans ?_); rfl) | rfl)) | ((with_reducible refine go_lp (x := ?_) (l := ?_) (c := ?_) ?_ ?_); rotate_left 3; (first | ((with_reducible refine (m _).trans ?_); rfl) | rfl)) | ((with_reducible refine go_pp (x := ?_) ?_ ?_); rotate_left 1; (first | ((with_reducible refine (m _).trans ?_); rfl) | rfl)) | ((with_reducible refine go_i (x := ?_) ?_ ?_); rotate_left 1; (first | ((with_reducible refine (m _).trans ?_); rfl) | rfl)) | ((with_reducible refine go_b (x := ?_) ?_ ?_); rotate_left 1; (first | ((with_reducible refine (m _).trans ?_); rfl) | rfl)) | ((with_reducible refine go_l (x := ?_) (l := ?_) (c := ?_) ?_ ?_); rotate_left 3; (first | ((with_reducible refine (m _).trans ?_); rfl) | rfl)) | ((with_reducible refine go_p (x := ?_) ?_ ?_); rotate_left 1; (first | ((with_reducible refine (m _).trans ?_); rfl) | rfl)) | ((with_reducible refine go_halst hHn ?_ ?_ ?_); rfl; rfl) | (with_reducible refine go_halN hHn ?_) | (with_reducible refine go_t d0 ?_) | (with_reducible refine go_f d0 ?_) | (with_reducible refine go_t d1 ?_) | (with_reducible refine go_f d1 ?_) | (with_reducible refine go_t d2 ?_) | (with_reducible refine go_f d2 ?_) | ((with_reducible refine go_t ?_ ?_); (show _ = true; rfl)) | ((with_reducible refine go_f ?_ ?_); (show _ = false; rfl)) | (with_reducible refine go_ne ?_) | (with_reducible refine go_eq ?_) | (with_reducible refine go_fad ?_) | (with_reducible refine go_nil ?_))
    rfl
  have d2 : (o.1 == 2) = false := by simpa using c2
  by_cases c3 : o.1 = 3
  · obtain ⟨q', H', e1, W, S⟩ := pUnary_eq (k := k) (by omega) hW hN' o.2.1 (by omega)
    have d3 : (o.1 == 3) = true := by rw [c3]; rfl
    rw [show wO o = wU o.2.1 from by unfold wO; rw [if_neg c0, if_neg c1, if_neg c2, if_pos c3]]
    refine ⟨q', H', fun R K => ?_, W, S0.trans S⟩
    unfold L_write L_write_b
    repeat (first | (with_reducible refine (e1 _ _).trans ?_) | ((with_reducible refine go_ip (x := ?_) ?_ ?_); rotate_left 1; (first | ((with_reducible refine (m _).trans ?_); rfl) | rfl)) | ((with_reducible refine go_bp (x := ?_) ?_ ?_); rotate_left 1; (first | ((with_reducible refine (m _).trans ?_); rfl) | rfl)) | ((with_reducible refine go_lp (x := ?_) (l := ?_) (c := ?_) ?_ ?_); rotate_left 3; (first | ((with_reducible refine (m _).trans ?_); rfl) | rfl)) | ((with_reducible refine go_pp (x := ?_) ?_ ?_); rotate_left 1; (first | ((with_reducible refine (m _).trans ?_); rfl) | rfl)) | ((with_reducible refine go_i (x := ?_) ?_ ?_); rotate_left 1; (first | ((with_reducible refine (m _).trans ?_); rfl) | rfl)) | ((with_reducible refine go_b (x := ?_) ?_ ?_); rotate_left 1; (first | ((with_reducible refine (m _).trans ?_); rfl) | rfl)) | ((with_reducible refine go_l (x := ?_) (l := ?_) (c := ?_) ?_ ?_); rotate_left 3; (first | ((with_reducible refine (m _).trans ?_); rfl) | rfl)) | ((with_reducible refine go_p (x := ?_) ?_ ?_); rotate_left 1; (first | ((with_reducible refine (m _).trans ?_); rfl) | rfl)) | ((with_reducible refine go_halst hHn ?_ ?_ ?_); rfl; rfl) | (with_reducible refine go_halN hHn ?_) | (with_reducible refine go_t d0 ?_) | (with_reducible refine go_f d0 ?_) | (with_reducible refine go_t d1 ?_) | (with_reducible refine go_f d1 ?_) | (with_reducible refine go_t d2 ?_) | (with_reducible refine go_f d2 ?_) | (with_reducible refine go_t d3 ?_) | (with_reducible refine go_f d3 ?_) | ((with_reducible refine go_t ?_ ?_); (show _ = true; rfl)) | ((with_reducible refine go_f ?_ ?_); (show _ = false; rfl)) | (with_reducible refine go_ne ?_) | (with_reducible refine go_eq ?_) | (with_reducible refine go_fad ?_) | (with_reducible refine go_nil ?_))
    rfl
  have d3 : (o.1 == 3) = false := by simpa using c3
  rw [show wO o = (0, []) from by unfold wO; rw [if_neg c0, if_neg c1, if_neg c2, if_neg c3]]
  refine ⟨q, Hn, fun R K => ?_, by simpa using hW, S0⟩
  unfold L_write L_write_b
  repeat (first | ((with_reducible refine go_ip (x := ?_) ?_ ?_); rotate_left 1; (first | ((with_reducible refine (m _).trans ?_); rfl) | rfl)) | ((with_reducible refine go_bp (x := ?_) ?_ ?_); rotate_left 1; (first | ((with_reducible refine (m _).trans ?_); rfl) | rfl)) | ((with_reducible refine go_lp (x := ?_) (l := ?_) (c := ?_) ?_ ?_); rotate_left 3; (first | ((with_reducible refine (m _).trans ?_); rfl) | rfl)) | ((with_reducible refine go_pp (x := ?_) ?_ ?_); rotate_left 1; (first | ((with_reducible refine (m _).trans ?_); rfl) | rfl)) | ((with_reducible refine go_i (x := ?_) ?_ ?_); rotate_left 1; (first | ((with_reducible refine (m _).trans ?_); rfl) | rfl)) | ((with_reducible refine go_b (x := ?_) ?_ ?_); rotate_left 1; (first | ((with_reducible refine (m _).trans ?_); rfl) | rfl)) | ((with_reducible refine go_l (x := ?_) (l := ?_) (c := ?_) ?_ ?_); rotate_left 3; (first | ((with_reducible refine (m _).trans ?_); rfl) | rfl)) | ((with_reducible refine go_p (x := ?_) ?_ ?_); rotate_left 1; (first | ((with_reducible refine (m _).trans ?_); rfl) | rfl)) | ((with_reducible refine go_halst hHn ?_ ?_ ?_); rfl; rfl) | (with_reducible refine go_halN hHn ?_) | (with_reducible refine go_t d0 ?_) | (with_reducible refine go_f d0 ?_) | (with_reducible refine go_t d1 ?_) | (with_reducible refine go_f d1 ?_) | (with_reducible refine go_t d2 ?_) | (with_reducible refine go_f d2 ?_) | (with_reducible refine go_t d3 ?_) | (with_reducible refine go_f d3 ?_) | ((with_reducible refine go_t ?_ ?_); (show _ = true; rfl)) | ((with_reducible refine go_f ?_ ?_); (show _ = false; rfl)) | (with_reducible refine go_ne ?_) | (with_reducible refine go_eq ?_) | (with_reducible refine go_fad ?_) | (with_reducible refine go_nil ?_))
  rfl
end Go.Proofs.Ytiapgcgpdndkiaa.Sh
