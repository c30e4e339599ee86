/- Bitio: the program's writer, its calls. -/
import Derived.Test.YtblkejnciinaeaaBtD
import Derived.Test.YtblkejnciinaeaaBtW
set_option linter.unusedVariables false
set_option linter.unusedSimpArgs false
namespace Go.Proofs.Ytblkejnciinaeaa.Sh
open Go.Proofs.Ytblkejnciinaeaa.FW Go.IntWalk
theorem pPut_eq (k : Nat) {N : Nat} {H : Heap} {p : Nat} {q : Option Addr} {l : List Int} (h : Wr N H p q l) (hN : N ≤ H.length) (hl : l.length < 1000000) (x : Int) :
    ∃ q' H', (∀ (R : Type) (K : Int → Heap → Option R), bitio_Writer_Put k (some ⟨p, 0, none⟩) x H K = K (wP x).1 H') ∧ Wr N H' p q' (l ++ (wP x).2) ∧ Stp p q H q' H' := by
  have o := ok_eq h
  by_cases hx : x = 0 ∨ x = 1
  · obtain ⟨q', H', e1, W, S⟩ := put_eq k h hN hl hx
    have e : wP x = (0, [x]) := if_pos hx
    rw [e]
    refine ⟨_, H', fun R K => ?_, W, S⟩
    unfold bitio_Writer_Put bitio_Writer_Put_b bitio_Writer_Put_p0 bitio_Writer_Put_p0_b
    have hc : (x != 0) = false ∨ ((x != 0) = true ∧ (x != 1) = false) := by rcases hx with rfl | rfl <;> simp
    rcases hc with hc | ⟨hc, hd⟩
    · repeat (first | (with_reducible refine (o _ _).trans ?_) | (with_reducible refine (e1 _ _).trans ?_) | ((with_reducible refine go_ip (x := ?_) ?_ ?_); rotate_left 1; (first  | rfl)) | ((with_reducible refine go_bp (x := ?_) ?_ ?_); rotate_left 1; (first  | rfl)) | ((with_reducible refine go_lp (x := ?_) (l := ?_) (c := ?_) ?_ ?_); rotate_left 3; (first  | rfl)) | ((with_reducible refine go_pp (x := ?_) ?_ ?_); rotate_left 1; (first  | rfl)) | ((with_reducible refine go_i (x := ?_) ?_ ?_); rotate_left 1; (first  | rfl)) | ((with_reducible refine go_b (x := ?_) ?_ ?_); rotate_left 1; (first  | rfl)) | ((with_reducible refine go_l (x := ?_) (l := ?_) (c := ?_) ?_ ?_); rotate_left 3; (first  | rfl)) | ((with_reducible refine go_p (x := ?_) ?_ ?_); rotate_left 1; (first  | rfl)) | ((with_reducible refine go_halst rfl ?_ ?_ ?_); rfl; rfl) | (with_reducible refine go_halN rfl ?_) | (with_reducible refine go_t hc ?_) | (with_reducible refine go_f hc ?_) | ((with_reducible refine go_t ?_ ?_); (show _ = true; rfl)) | ((with_reducible refine go_f ?_ ?_); (show _ = false; rfl)) | (with_reducible refine go_ne ?_) | (with_reducible refine go_eq ?_) | (with_reducible refine go_fad ?_) | (with_reducible refine go_nil ?_))
      rfl
    · repeat (first | (with_reducible refine (o _ _).trans ?_) | (with_reducible refine (e1 _ _).trans ?_) | ((with_reducible refine go_ip (x := ?_) ?_ ?_); rotate_left 1; (first  | rfl)) | ((with_reducible refine go_bp (x := ?_) ?_ ?_); rotate_left 1; (first  | rfl)) | ((with_reducible refine go_lp (x := ?_) (l := ?_) (c := ?_) ?_ ?_); rotate_left 3; (first  | rfl)) | ((with_reducible refine go_pp (x := ?_) ?_ ?_); rotate_left 1; (first  | rfl)) | ((with_reducible refine go_i (x := ?_) ?_ ?_); rotate_left 1; (first  | rfl)) | ((with_reducible refine go_b (x := ?_) ?_ ?_); rotate_left 1; (first  | rfl)) | ((with_reducible refine go_l (x := ?_) (l := ?_) (c := ?_) ?_ ?_); rotate_left 3; (first  | rfl)) | ((with_reducible refine go_p (x := ?_) ?_ ?_); rotate_left 1; (first  | rfl)) | ((with_reducible refine go_halst rfl ?_ ?_ ?_); rfl; rfl) | (with_reducible refine go_halN rfl ?_) | (with_reducible refine go_t hc ?_) | (with_reducible refine go_f hc ?_) | (with_reducible refine go_t hd ?_) | (with_reducible refine go_f hd ?_) | ((with_reducible refine go_t ?_ ?_); (show _ = true; rfl)) | ((with_reducible refine go_f ?_ ?_); (show _ = false; rfl)) | (with_reducible refine go_ne ?_) | (with_reducible refine go_eq ?_) | (with_reducible refine go_fad ?_) | (with_reducible refine go_nil ?_))
      rfl
  · have e : wP x = (1, []) := if_neg hx
    rw [e]
    refine ⟨q, H, fun R K => ?_, by simpa using h, .refl _ _ _⟩
    have hc : (x != 0) = true := by simp; omega
    have hd : (x != 1) = true := by simp; omega
    unfold bitio_Writer_Put bitio_Writer_Put_b bitio_Writer_Put_p0 bitio_Writer_Put_p0_b
    repeat (first | (with_reducible refine (o _ _).trans ?_) | ((with_reducible refine go_ip (x := ?_) ?_ ?_); rotate_left 1; (first  | rfl)) | ((with_reducible refine go_bp (x := ?_) ?_ ?_); rotate_left 1; (first  | rfl)) | ((with_reducible refine go_lp (x := ?_) (l := ?_) (c := ?_) ?_ ?_); rotate_left 3; (first  | rfl)) | ((with_reducible refine go_pp (x := ?_) ?_ ?_); rotate_left 1; (first  | rfl)) | ((with_reducible refine go_i (x := ?_) ?_ ?_); rotate_left 1; (first  | rfl)) | ((with_reducible refine go_b (x := ?_) ?_ ?_); rotate_left 1; (first  | rfl)) | ((with_reducible refine go_l (x := ?_) (l := ?_) (c := ?_) ?_ ?_); rotate_left 3; (first  | rfl)) | ((with_reducible refine go_p (x := ?_) ?_ ?_); rotate_left 1; (first  | rfl)) | ((with_reducible refine go_halst rfl ?_ ?_ ?_); rfl; rfl) | (with_reducible refine go_halN rfl ?_) | (with_reducible refine go_t hc ?_) | (with_reducible refine go_f hc ?_) | (with_reducible refine go_t hd ?_) | (with_reducible refine go_f hd ?_) | ((with_reducible refine go_t ?_ ?_); (show _ = true; rfl)) | ((with_reducible refine go_f ?_ ?_); (show _ = false; rfl)) | (with_reducible refine go_ne ?_) | (with_reducible refine go_eq ?_) | (with_reducible refine go_fad ?_) | (with_reducible refine go_nil ?_))
    rfl
theorem pBits_l (k : Nat) {N p v : Nat} (hv : v < 2 ^ 60) : ∀ (m n : Nat), m < n → m ≤ 33 → ∀ (i : Int), i = (m : Int) - 1 → ∀ (H : Heap) (q : Option Addr) (l : List Int), Wr N H p q l → N ≤ H.length → l.length + m < 1000000 →
    ∃ q' H', (∀ (R : Type) (KE : Heap → Option R), bitio_Writer_Bits_l1 k KE n (some ⟨p, 0, none⟩) (v : Int) i H = KE H') ∧ Wr N H' p q' (l ++ bt v m) ∧ Stp p q H q' H' := by
  intro m
  induction m with
  | zero =>
    intro n hn hm i hi H q l h hN hl
    obtain ⟨n, rfl⟩ : ∃ n', n = n' + 1 := ⟨n - 1, by omega⟩
    have ed : decide (i ≥ 0) = false := decide_eq_false (by omega)
    refine ⟨q, H, fun R KE => ?_, by simpa [bt] using h, .refl _ _ _⟩
    unfold bitio_Writer_Bits_l1 bitio_Writer_Bits_l1_b
    repeat (first | ((with_reducible refine go_ip (x := ?_) ?_ ?_); rotate_left 1; (first  | rfl)) | ((with_reducible refine go_bp (x := ?_) ?_ ?_); rotate_left 1; (first  | rfl)) | ((with_reducible refine go_lp (x := ?_) (l := ?_) (c := ?_) ?_ ?_); rotate_left 3; (first  | rfl)) | ((with_reducible refine go_pp (x := ?_) ?_ ?_); rotate_left 1; (first  | rfl)) | ((with_reducible refine go_i (x := ?_) ?_ ?_); rotate_left 1; (first  | rfl)) | ((with_reducible refine go_b (x := ?_) ?_ ?_); rotate_left 1; (first  | rfl)) | ((with_reducible refine go_l (x := ?_) (l := ?_) (c := ?_) ?_ ?_); rotate_left 3; (first  | rfl)) | ((with_reducible refine go_p (x := ?_) ?_ ?_); rotate_left 1; (first  | rfl)) | ((with_reducible refine go_halst rfl ?_ ?_ ?_); rfl; rfl) | (with_reducible refine go_halN rfl ?_) | (with_reducible refine go_t ed ?_) | (with_reducible refine go_f ed ?_) | ((with_reducible refine go_t ?_ ?_); (show _ = true; rfl)) | ((with_reducible refine go_f ?_ ?_); (show _ = false; rfl)) | (with_reducible refine go_ne ?_) | (with_reducible refine go_eq ?_) | (with_reducible refine go_fad ?_) | (with_reducible refine go_nil ?_))
    rfl
  | succ m ih =>
    intro n hn hm i hi H q l h hN hl
    obtain ⟨n, rfl⟩ : ∃ n', n = n' + 1 := ⟨n - 1, by omega⟩
    obtain rfl : i = (m : Int) := by omega
    have ed : decide ((m : Int) ≥ 0) = true := decide_eq_true (by omega)
    obtain ⟨q2, H2, e1, U, S⟩ := put_eq k h hN (by omega) (x := ((v / 2 ^ m % 2 : Nat) : Int)) (by omega)
    obtain ⟨q', H', e3, U3, S3⟩ := ih n (by omega) (by omega) ((m : Int) - 1) rfl H2 _ _ U (by have := S.len; omega) (by rw [List.length_append]; simp only [List.length_cons, List.length_nil]; omega)
    have s1 : ∀ (R : Type) (K : Int → Option R), hbin .shr .i64 (v : Int) (IntKind.wrap .u64 (m : Int)) K = K ((v / 2 ^ m : Nat) : Int) := fun R K => shr64 (by omega) K
    have s2 : ∀ (R : Type) (K : Int → Option R), hbin .and .i64 ((v / 2 ^ m : Nat) : Int) 1 K = K ((v / 2 ^ m % 2 : Nat) : Int) := fun R K => by
      rw [← bit_n]; exact and64 (b := 1) (Nat.lt_of_le_of_lt (Nat.div_le_self _ _) (by omega)) (by omega) K
    have w := w64 (n := (m : Int) - 1) (by omega) (by omega)
    refine ⟨q', H', fun R KE => ?_, by rw [bt]; simpa [List.append_assoc] using U3, S.trans S3⟩
    unfold bitio_Writer_Bits_l1 bitio_Writer_Bits_l1_b
    repeat (first | (with_reducible refine (s1 _ _).trans ?_) | (with_reducible refine (s2 _ _).trans ?_) | (with_reducible refine (e1 _ _).trans ?_) | ((with_reducible refine go_ip (x := ?_) ?_ ?_); rotate_left 1; (first  | rfl)) | ((with_reducible refine go_bp (x := ?_) ?_ ?_); rotate_left 1; (first  | rfl)) | ((with_reducible refine go_lp (x := ?_) (l := ?_) (c := ?_) ?_ ?_); rotate_left 3; (first  | rfl)) | ((with_reducible refine go_pp (x := ?_) ?_ ?_); rotate_left 1; (first  | rfl)) | ((with_reducible refine go_i (x := ?_) ?_ ?_); rotate_left 1; (first  | rfl)) | ((with_reducible refine go_b (x := ?_) ?_ ?_); rotate_left 1; (first  | rfl)) | ((with_reducible refine go_l (x := ?_) (l := ?_) (c := ?_) ?_ ?_); rotate_left 3; (first  | rfl)) | ((with_reducible refine go_p (x := ?_) ?_ ?_); rotate_left 1; (first  | rfl)) | ((with_reducible refine go_halst rfl ?_ ?_ ?_); rfl; rfl) | (with_reducible refine go_halN rfl ?_) | (with_reducible refine go_t ed ?_) | (with_reducible refine go_f ed ?_) | ((with_reducible refine go_t ?_ ?_); (show _ = true; rfl)) | ((with_reducible refine go_f ?_ ?_); (show _ = false; rfl)) | (with_reducible refine go_ne ?_) | (with_reducible refine go_eq ?_) | (with_reducible refine go_fad ?_) | (with_reducible refine go_nil ?_))
    try dsimp only
    rw [w]
    exact e3 _ _
theorem pBits_eq {k : Nat} (hk : 1000 < k) {N : Nat} {H : Heap} {p : Nat} {q : Option Addr} {l : List Int} (h : Wr N H p q l) (hN : N ≤ H.length) (hl : l.length < 999000) (v nn : Int) (hv : v ≤ 9223372036854775807) :
    ∃ q' H', (∀ (R : Type) (K : Int → Heap → Option R), bitio_Writer_Bits k (some ⟨p, 0, none⟩) v nn H K = K (wB v nn).1 H') ∧ Wr N H' p q' (l ++ (wB v nn).2) ∧ Stp p q H q' H' := by
  have o := ok_eq h
  have bad : wB v nn = (1, []) → (∀ (R : Type) (K : Int → Heap → Option R), bitio_Writer_Bits k (some ⟨p, 0, none⟩) v nn H K = K 1 H) → ∃ q' H', (∀ (R : Type) (K : Int → Heap → Option R), bitio_Writer_Bits k (some ⟨p, 0, none⟩) v nn H K = K (wB v nn).1 H') ∧ Wr N H' p q' (l ++ (wB v nn).2) ∧ Stp p q H q' H' := fun e g => by
    rw [e]; exact ⟨q, H, g, by simpa using h, .refl _ _ _⟩
  by_cases c1 : nn < 0
  · refine bad (if_neg (by omega)) fun R K => ?_
    have d1 := decide_eq_true c1
    unfold bitio_Writer_Bits bitio_Writer_Bits_b bitio_Writer_Bits_p0 bitio_Writer_Bits_p0_b
    repeat (first | (with_reducible refine (o _ _).trans ?_) | ((with_reducible refine go_ip (x := ?_) ?_ ?_); rotate_left 1; (first  | rfl)) | ((with_reducible refine go_bp (x := ?_) ?_ ?_); rotate_left 1; (first  | rfl)) | ((with_reducible refine go_lp (x := ?_) (l := ?_) (c := ?_) ?_ ?_); rotate_left 3; (first  | rfl)) | ((with_reducible refine go_pp (x := ?_) ?_ ?_); rotate_left 1; (first  | rfl)) | ((with_reducible refine go_i (x := ?_) ?_ ?_); rotate_left 1; (first  | rfl)) | ((with_reducible refine go_b (x := ?_) ?_ ?_); rotate_left 1; (first  | rfl)) | ((with_reducible refine go_l (x := ?_) (l := ?_) (c := ?_) ?_ ?_); rotate_left 3; (first  | rfl)) | ((with_reducible refine go_p (x := ?_) ?_ ?_); rotate_left 1; (first  | rfl)) | ((with_reducible refine go_halst rfl ?_ ?_ ?_); rfl; rfl) | (with_reducible refine go_halN rfl ?_) | (with_reducible refine go_t d1 ?_) | (with_reducible refine go_f d1 ?_) | ((with_reducible refine go_t ?_ ?_); (show _ = true; rfl)) | ((with_reducible refine go_f ?_ ?_); (show _ = false; rfl)) | (with_reducible refine go_ne ?_) | (with_reducible refine go_eq ?_) | (with_reducible refine go_fad ?_) | (with_reducible refine go_nil ?_))
    rfl
  have d1 := decide_eq_false c1
  by_cases c2 : nn > 32
  · refine bad (if_neg (by omega)) fun R K => ?_
    have d2 := decide_eq_true c2
    unfold bitio_Writer_Bits bitio_Writer_Bits_b bitio_Writer_Bits_p0 bitio_Writer_Bits_p0_b
    repeat (first | (with_reducible refine (o _ _).trans ?_) | ((with_reducible refine go_ip (x := ?_) ?_ ?_); rotate_left 1; (first  | rfl)) | ((with_reducible refine go_bp (x := ?_) ?_ ?_); rotate_left 1; (first  | rfl)) | ((with_reducible refine go_lp (x := ?_) (l := ?_) (c := ?_) ?_ ?_); rotate_left 3; (first  | rfl)) | ((with_reducible refine go_pp (x := ?_) ?_ ?_); rotate_left 1; (first  | rfl)) | ((with_reducible refine go_i (x := ?_) ?_ ?_); rotate_left 1; (first  | rfl)) | ((with_reducible refine go_b (x := ?_) ?_ ?_); rotate_left 1; (first  | rfl)) | ((with_reducible refine go_l (x := ?_) (l := ?_) (c := ?_) ?_ ?_); rotate_left 3; (first  | rfl)) | ((with_reducible refine go_p (x := ?_) ?_ ?_); rotate_left 1; (first  | rfl)) | ((with_reducible refine go_halst rfl ?_ ?_ ?_); rfl; rfl) | (with_reducible refine go_halN rfl ?_) | (with_reducible refine go_t d1 ?_) | (with_reducible refine go_f d1 ?_) | (with_reducible refine go_t d2 ?_) | (with_reducible refine go_f d2 ?_) | ((with_reducible refine go_t ?_ ?_); (show _ = true; rfl)) | ((with_reducible refine go_f ?_ ?_); (show _ = false; rfl)) | (with_reducible refine go_ne ?_) | (with_reducible refine go_eq ?_) | (with_reducible refine go_fad ?_) | (with_reducible refine go_nil ?_))
    rfl
  have d2 := decide_eq_false c2
  by_cases c3 : v < 0
  · refine bad (if_neg (by omega)) fun R K => ?_
    have d3 := decide_eq_true c3
    unfold bitio_Writer_Bits bitio_Writer_Bits_b bitio_Writer_Bits_p0 bitio_Writer_Bits_p0_b
    repeat (first | (with_reducible refine (o _ _).trans ?_) | ((with_reducible refine go_ip (x := ?_) ?_ ?_); rotate_left 1; (first  | rfl)) | ((with_reducible refine go_bp (x := ?_) ?_ ?_); rotate_left 1; (first  | rfl)) | ((with_reducible refine go_lp (x := ?_) (l := ?_) (c := ?_) ?_ ?_); rotate_left 3; (first  | rfl)) | ((with_reducible refine go_pp (x := ?_) ?_ ?_); rotate_left 1; (first  | rfl)) | ((with_reducible refine go_i (x := ?_) ?_ ?_); rotate_left 1; (first  | rfl)) | ((with_reducible refine go_b (x := ?_) ?_ ?_); rotate_left 1; (first  | rfl)) | ((with_reducible refine go_l (x := ?_) (l := ?_) (c := ?_) ?_ ?_); rotate_left 3; (first  | rfl)) | ((with_reducible refine go_p (x := ?_) ?_ ?_); rotate_left 1; (first  | rfl)) | ((with_reducible refine go_halst rfl ?_ ?_ ?_); rfl; rfl) | (with_reducible refine go_halN rfl ?_) | (with_reducible refine go_t d1 ?_) | (with_reducible refine go_f d1 ?_) | (with_reducible refine go_t d2 ?_) | (with_reducible refine go_f d2 ?_) | (with_reducible refine go_t d3 ?_) | (with_reducible refine go_f d3 ?_) | ((with_reducible refine go_t ?_ ?_); (show _ = true; rfl)) | ((with_reducible refine go_f ?_ ?_); (show _ = false; rfl)) | (with_reducible refine go_ne ?_) | (with_reducible refine go_eq ?_) | (with_reducible refine go_fad ?_) | (with_reducible refine go_nil ?_))
    rfl
  have d3 := decide_eq_false c3
  obtain ⟨n, rfl⟩ : ∃ n : Nat, nn = n := ⟨nn.toNat, by omega⟩
  have hp := p32 (n := n) (by omega)
  have s0 : ∀ (R : Type) (K : Int → Option R), hbin .shl .i64 1 (IntKind.wrap .u64 (n : Int)) K = K ((2 ^ n : Nat) : Int) := fun R K => by
    have := shl64 (a := 1) (n := n) (by omega) (by omega) K
    rwa [Nat.one_mul] at this
  by_cases c4 : v ≥ ((2 ^ n : Nat) : Int)
  · refine bad (if_neg fun hh => ?_) fun R K => ?_
    · have := hh.2.2.2
      rw [Int.toNat_natCast] at this
      have e : ((2 ^ n : Nat) : Int) = 2 ^ n := by rw [Int.natCast_pow]; rfl
      omega
    have d4 := decide_eq_true c4
    unfold bitio_Writer_Bits bitio_Writer_Bits_b bitio_Writer_Bits_p0 bitio_Writer_Bits_p0_b
    repeat (first | (with_reducible refine (o _ _).trans ?_) | (with_reducible refine (s0 _ _).trans ?_) | ((with_reducible refine go_ip (x := ?_) ?_ ?_); rotate_left 1; (first  | rfl)) | ((with_reducible refine go_bp (x := ?_) ?_ ?_); rotate_left 1; (first  | rfl)) | ((with_reducible refine go_lp (x := ?_) (l := ?_) (c := ?_) ?_ ?_); rotate_left 3; (first  | rfl)) | ((with_reducible refine go_pp (x := ?_) ?_ ?_); rotate_left 1; (first  | rfl)) | ((with_reducible refine go_i (x := ?_) ?_ ?_); rotate_left 1; (first  | rfl)) | ((with_reducible refine go_b (x := ?_) ?_ ?_); rotate_left 1; (first  | rfl)) | ((with_reducible refine go_l (x := ?_) (l := ?_) (c := ?_) ?_ ?_); rotate_left 3; (first  | rfl)) | ((with_reducible refine go_p (x := ?_) ?_ ?_); rotate_left 1; (first  | rfl)) | ((with_reducible refine go_halst rfl ?_ ?_ ?_); rfl; rfl) | (with_reducible refine go_halN rfl ?_) | (with_reducible refine go_t d1 ?_) | (with_reducible refine go_f d1 ?_) | (with_reducible refine go_t d2 ?_) | (with_reducible refine go_f d2 ?_) | (with_reducible refine go_t d3 ?_) | (with_reducible refine go_f d3 ?_) | (with_reducible refine go_t d4 ?_) | (with_reducible refine go_f d4 ?_) | ((with_reducible refine go_t ?_ ?_); (show _ = true; rfl)) | ((with_reducible refine go_f ?_ ?_); (show _ = false; rfl)) | (with_reducible refine go_ne ?_) | (with_reducible refine go_eq ?_) | (with_reducible refine go_fad ?_) | (with_reducible refine go_nil ?_))
    rfl
  have d4 := decide_eq_false c4
  obtain ⟨u, rfl⟩ : ∃ u : Nat, v = u := ⟨v.toNat, by omega⟩
  have e : wB (u : Int) (n : Int) = (0, bt u n) := by
    have e : ((2 ^ n : Nat) : Int) = 2 ^ n := by rw [Int.natCast_pow]; rfl
    unfold wB
    rw [if_pos ⟨by omega, by omega, by omega, by rw [Int.toNat_natCast]; omega⟩, Int.toNat_natCast, Int.toNat_natCast]
  obtain ⟨q', H', e3, U3, S3⟩ := pBits_l k (N := N) (p := p) (v := u) (by omega) n k (by omega) (by omega) ((n : Int) - 1) rfl H q l h hN (by omega)
  have w := w64 (n := (n : Int) - 1) (by omega) (by omega)
  rw [e]
  refine ⟨q', H', fun R K => ?_, U3, S3⟩
  unfold bitio_Writer_Bits bitio_Writer_Bits_b bitio_Writer_Bits_p0 bitio_Writer_Bits_p0_b
  repeat (first | (with_reducible refine (o _ _).trans ?_) | (with_reducible refine (s0 _ _).trans ?_) | ((with_reducible refine go_ip (x := ?_) ?_ ?_); rotate_left 1; (first  | rfl)) | ((with_reducible refine go_bp (x := ?_) ?_ ?_); rotate_left 1; (first  | rfl)) | ((with_reducible refine go_lp (x := ?_) (l := ?_) (c := ?_) ?_ ?_); rotate_left 3; (first  | rfl)) | ((with_reducible refine go_pp (x := ?_) ?_ ?_); rotate_left 1; (first  | rfl)) | ((with_reducible refine go_i (x := ?_) ?_ ?_); rotate_left 1; (first  | rfl)) | ((with_reducible refine go_b (x := ?_) ?_ ?_); rotate_left 1; (first  | rfl)) | ((with_reducible refine go_l (x := ?_) (l := ?_) (c := ?_) ?_ ?_); rotate_left 3; (first  | rfl)) | ((with_reducible refine go_p (x := ?_) ?_ ?_); rotate_left 1; (first  | rfl)) | ((with_reducible refine go_halst rfl ?_ ?_ ?_); rfl; rfl) | (with_reducible refine go_halN rfl ?_) | (with_reducible refine go_t d1 ?_) | (with_reducible refine go_f d1 ?_) | (with_reducible refine go_t d2 ?_) | (with_reducible refine go_f d2 ?_) | (with_reducible refine go_t d3 ?_) | (with_reducible refine go_f d3 ?_) | (with_reducible refine go_t d4 ?_) | (with_reducible refine go_f d4 ?_) | ((with_reducible refine go_t ?_ ?_); (show _ = true; rfl)) | ((with_reducible refine go_f ?_ ?_); (show _ = false; rfl)) | (with_reducible refine go_ne ?_) | (with_reducible refine go_eq ?_) | (with_reducible refine go_fad ?_) | (with_reducible refine go_nil ?_))
  try dsimp only
  rw [w]
  exact e3 _ _
end Go.Proofs.Ytblkejnciinaeaa.Sh
