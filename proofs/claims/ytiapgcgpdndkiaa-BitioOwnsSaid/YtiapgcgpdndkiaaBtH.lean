/- Bitio: the bytes of the reference's writer. -/
import Derived.Test.YtiapgcgpdndkiaaBtG
set_option linter.unusedVariables false
set_option linter.unusedSimpArgs false
namespace Go.Proofs.Ytiapgcgpdndkiaa.Sh
open Go.Proofs.Ytiapgcgpdndkiaa.FW Go.IntWalk
/-- n bits from a place on, zeros behind the end. -/
def ck (l : List Int) (a n : Nat) : List Int := (List.range n).map fun i => l.getD (a + i) 0
theorem ck_succ (l : List Int) (a n : Nat) : ck l a (n + 1) = ck l a n ++ [l.getD (a + n) 0] := by unfold ck; rw [List.range_succ, List.map_append]; rfl
theorem ck_len (l : List Int) (a n : Nat) : (ck l a n).length = n := by simp [ck]
theorem ck_mid (pre c rest : List Int) : ck (pre ++ (c ++ rest)) pre.length c.length = c := by
  apply List.ext_getElem?
  intro i
  by_cases h : i < c.length
  · simp [ck, h, List.getElem?_append_right]
    rw [List.getElem?_append_left h, List.getElem?_eq_getElem h]; rfl
  · rw [List.getElem?_eq_none (by rw [ck_len]; omega), List.getElem?_eq_none (by omega)]
theorem ck_end (pre t : List Int) (n : Nat) (h : t.length ≤ n) : ck (pre ++ t) pre.length n = t ++ List.replicate (n - t.length) 0 := by
  apply List.ext_getElem?
  intro i
  by_cases h1 : i < t.length
  · rw [List.getElem?_append_left h1]
    have : i < n := by omega
    simp [ck, this, List.getElem?_append_right, h1]
  · by_cases h2 : i < n
    · rw [List.getElem?_append_right (by omega)]
      have : i - t.length < n - t.length := by omega
      simp [ck, h2, List.getElem?_append_right, this]
      rw [List.getElem?_eq_none (by omega)]; rfl
    · rw [List.getElem?_eq_none (by rw [ck_len]; omega), List.getElem?_eq_none (by simp; omega)]
theorem l3_eq (k : Nat) {N : Nat} {H : Heap} {p : Nat} {q : Option Addr} {l : List Int} (h : Ur N H p q l) (hb : B01 l) (hl : l.length < 1000000) (qb : Option Addr) (lb cb : Nat) {a w : Nat} (ha : a < 2000000) (hw : w ≤ 8) : ∀ (m n j : Nat), m < n → w = j + m → ∀ (R : Type) (KE : Option Addr → Option Addr → Nat → Nat → Int → Int → Option R),
    R09_Writer_Bytes_l3 k KE n (some ⟨p, 0, none⟩) qb lb cb ((a + j : Nat) : Int) (w : Int) ((val (ck l a j) : Nat) : Int) (j : Int) H = KE (some ⟨p, 0, none⟩) qb lb cb ((a + w : Nat) : Int) ((val (ck l a w) : Nat) : Int) := by
  intro m
  obtain ⟨c, h1, h2⟩ := h.c
  have mm : ∀ o, hcell H p o = [Value.bool true, .slice q l.length c][o]? := fun o => h1.sees.cell o
  induction m with
  | zero =>
    intro n j hn hj R KE
    obtain ⟨n, rfl⟩ : ∃ n', n = n' + 1 := ⟨n - 1, by omega⟩
    obtain rfl : w = j := by omega
    have ed : decide ((w : Int) < (w : Int)) = false := decide_eq_false (by omega)
    unfold R09_Writer_Bytes_l3 R09_Writer_Bytes_l3_b
    exact go_f ed rfl
  | succ m ih =>
    intro n j hn hj R KE
    obtain ⟨n, rfl⟩ : ∃ n', n = n' + 1 := ⟨n - 1, by omega⟩
    have ed : decide ((j : Int) < (w : Int)) = true := decide_eq_true (by omega)
    have hv := val_lt (ck l a j)
    rw [ck_len] at hv
    have hv8 : 2 ^ j ≤ 2 ^ 8 := Nat.pow_le_pow_right (by omega) (by omega)
    have hbn := bn_le (l.getD (a + j) 0)
    have w1 : IntKind.wrap .i64 (((val (ck l a j) : Nat) : Int) * 2) = ((val (ck l a j) : Nat) : Int) * 2 := w64 (by omega) (by omega)
    have w2 : IntKind.wrap .i64 (((a + j : Nat) : Int) + 1) = ((a + (j + 1) : Nat) : Int) := by rw [w64 (by omega) (by omega)]; omega
    have w3 : IntKind.wrap .i64 ((j : Int) + 1) = ((j + 1 : Nat) : Int) := by rw [w64 (by omega) (by omega)]; omega
    have hvs : val (ck l a (j + 1)) = 2 * val (ck l a j) + bn (l.getD (a + j) 0) := by rw [ck_succ, val_snoc]
    have key : ∀ (R : Type) (KN : Option Addr → Option Addr → Nat → Nat → Int → Int → Int → Int → Option R), R09_Writer_Bytes_p4 k (some ⟨p, 0, none⟩) qb lb cb ((a + j : Nat) : Int) (w : Int) (((val (ck l a j) : Nat) : Int) * 2) (j : Int) H KN = KN (some ⟨p, 0, none⟩) qb lb cb ((a + j : Nat) : Int) (w : Int) ((val (ck l a (j + 1)) : Nat) : Int) (j : Int) := by
      intro R KN
      by_cases hin : a + j < l.length
      · have hx : l[a + j]? = some (l.getD (a + j) 0) := by rw [List.getD_eq_getElem?_getD, List.getElem?_eq_getElem hin]; rfl
        have d1 : decide (((a + j : Nat) : Int) < ((l.length : Nat) : Int)) = true := decide_eq_true (by omega)
        obtain ⟨x, e1, e2⟩ := num_at h2.shows.1 hx
        have hbx := bn_of (hb _ (List.mem_of_getElem? hx))
        have w4 : IntKind.wrap .i64 (((val (ck l a j) : Nat) : Int) * 2 + l.getD (a + j) 0) = ((val (ck l a (j + 1)) : Nat) : Int) := by rw [w64 (by omega) (by omega)]; omega
        unfold R09_Writer_Bytes_p4 R09_Writer_Bytes_p4_b
        repeat (first | (with_reducible refine (e1 _ _).trans ?_) | (with_reducible refine (e2 _ _).trans ?_) | ((with_reducible refine go_ip (x := ?_) ?_ ?_); rotate_left 1; (first | ((with_reducible refine (mm _).trans ?_); rfl) | rfl)) | ((with_reducible refine go_bp (x := ?_) ?_ ?_); rotate_left 1; (first | ((with_reducible refine (mm _).trans ?_); rfl) | rfl)) | ((with_reducible refine go_lp (x := ?_) (l := ?_) (c := ?_) ?_ ?_); rotate_left 3; (first | ((with_reducible refine (mm _).trans ?_); rfl) | rfl)) | ((with_reducible refine go_pp (x := ?_) ?_ ?_); rotate_left 1; (first | ((with_reducible refine (mm _).trans ?_); rfl) | rfl)) | ((with_reducible refine go_i (x := ?_) ?_ ?_); rotate_left 1; (first | ((with_reducible refine (mm _).trans ?_); rfl) | rfl)) | ((with_reducible refine go_b (x := ?_) ?_ ?_); rotate_left 1; (first | ((with_reducible refine (mm _).trans ?_); rfl) | rfl)) | ((with_reducible refine go_l (x := ?_) (l := ?_) (c := ?_) ?_ ?_); rotate_left 3; (first | ((with_reducible refine (mm _).trans ?_); rfl) | rfl)) | ((with_reducible refine go_p (x := ?_) ?_ ?_); rotate_left 1; (first | ((with_reducible refine (mm _).trans ?_); rfl) | rfl)) | ((with_reducible refine go_halst rfl ?_ ?_ ?_); rfl; rfl) | (with_reducible refine go_halN rfl ?_) | (with_reducible refine go_t d1 ?_) | (with_reducible refine go_f d1 ?_) | ((with_reducible refine go_t ?_ ?_); (show _ = true; rfl)) | ((with_reducible refine go_f ?_ ?_); (show _ = false; rfl)) | (with_reducible refine go_ne ?_) | (with_reducible refine go_eq ?_) | (with_reducible refine go_fad ?_) | (with_reducible refine go_nil ?_))
        rw [w4]
      · have hx : l.getD (a + j) 0 = 0 := by rw [List.getD_eq_getElem?_getD, List.getElem?_eq_none (by omega)]; rfl
        have d1 : decide (((a + j : Nat) : Int) < ((l.length : Nat) : Int)) = false := decide_eq_false (by omega)
        have h0 : bn 0 = 0 := rfl
        have hvs' : ((val (ck l a (j + 1)) : Nat) : Int) = ((val (ck l a j) : Nat) : Int) * 2 := by rw [hvs, hx]; omega
        rw [hvs']
        unfold R09_Writer_Bytes_p4 R09_Writer_Bytes_p4_b
        repeat (first | ((with_reducible refine go_ip (x := ?_) ?_ ?_); rotate_left 1; (first | ((with_reducible refine (mm _).trans ?_); rfl) | rfl)) | ((with_reducible refine go_bp (x := ?_) ?_ ?_); rotate_left 1; (first | ((with_reducible refine (mm _).trans ?_); rfl) | rfl)) | ((with_reducible refine go_lp (x := ?_) (l := ?_) (c := ?_) ?_ ?_); rotate_left 3; (first | ((with_reducible refine (mm _).trans ?_); rfl) | rfl)) | ((with_reducible refine go_pp (x := ?_) ?_ ?_); rotate_left 1; (first | ((with_reducible refine (mm _).trans ?_); rfl) | rfl)) | ((with_reducible refine go_i (x := ?_) ?_ ?_); rotate_left 1; (first | ((with_reducible refine (mm _).trans ?_); rfl) | rfl)) | ((with_reducible refine go_b (x := ?_) ?_ ?_); rotate_left 1; (first | ((with_reducible refine (mm _).trans ?_); rfl) | rfl)) | ((with_reducible refine go_l (x := ?_) (l := ?_) (c := ?_) ?_ ?_); rotate_left 3; (first | ((with_reducible refine (mm _).trans ?_); rfl) | rfl)) | ((with_reducible refine go_p (x := ?_) ?_ ?_); rotate_left 1; (first | ((with_reducible refine (mm _).trans ?_); rfl) | rfl)) | ((with_reducible refine go_halst rfl ?_ ?_ ?_); rfl; rfl) | (with_reducible refine go_halN rfl ?_) | (with_reducible refine go_t d1 ?_) | (with_reducible refine go_f d1 ?_) | ((with_reducible refine go_t ?_ ?_); (show _ = true; rfl)) | ((with_reducible refine go_f ?_ ?_); (show _ = false; rfl)) | (with_reducible refine go_ne ?_) | (with_reducible refine go_eq ?_) | (with_reducible refine go_fad ?_) | (with_reducible refine go_nil ?_))
        rfl
    unfold R09_Writer_Bytes_l3 R09_Writer_Bytes_l3_b
    refine go_t ed ?_
    rw [w1]
    refine (key _ _).trans ?_
    try dsimp only
    rw [w2, w3]
    exact ih n (j + 1) (by omega) (by omega) R KE
theorem p2_eq (k : Nat) {H : Heap} (pp qb : Option Addr) (cb : Nat) (at_ : Int) {b : List Int} (hS : Shows H qb (byt b)) (hl : b.length < 1000000) (R : Type) (KN : Option Addr → Option Addr → Nat → Nat → Int → Int → Option R) : R09_Writer_Bytes_p2 k pp qb b.length cb at_ 8 H KN = KN pp qb b.length cb at_ ((sz b : Nat) : Int) := by
  by_cases h0 : b.length > 0
  · have d0 : decide (((b.length : Nat) : Int) > 0) = true := decide_eq_true (by omega)
    have hx : b[b.length - 1]? = b.getLast? := (List.getLast?_eq_getElem? (l := b)).symm
    obtain ⟨x, hx2⟩ : ∃ x, b.getLast? = some x := ⟨_, List.getLast?_eq_some_getLast (fun h => by rw [h] at h0; simp at h0)⟩
    obtain ⟨y, e1, e2⟩ := byte_at hS (i := b.length - 1) (x := x) (by rw [hx, hx2])
    have e1' : ∀ (R : Type) (K : Option Addr → Option R), hidx qb b.length (IntKind.wrap .i64 (((b.length : Nat) : Int) - 1)) 1 K = K y := fun R K => by
      rw [w64 (by omega) (by omega), show ((b.length : Nat) : Int) - 1 = ((b.length - 1 : Nat) : Int) from by omega]; exact e1 R K
    have hs : sz b = if x = 255 then 7 else 8 := by unfold sz; rw [hx2]; simp
    by_cases h255 : x = 255
    · have d1 : (x == 255) = true := by rw [h255]; rfl
      rw [hs, if_pos h255]
      unfold R09_Writer_Bytes_p2 R09_Writer_Bytes_p2_b
      repeat (first | (with_reducible refine (e1' _ _).trans ?_) | (with_reducible refine (e2 _ _).trans ?_) | ((with_reducible refine go_ip (x := ?_) ?_ ?_); rotate_left 1; (first  | rfl)) | ((with_reducible refine go_bp (x := ?_) ?_ ?_); rotate_left 1; (first  | rfl)) | ((with_reducible refine go_lp (x := ?_) (l := ?_) (c := ?_) ?_ ?_); rotate_left 3; (first  | rfl)) | ((with_reducible refine go_pp (x := ?_) ?_ ?_); rotate_left 1; (first  | rfl)) | ((with_reducible refine go_i (x := ?_) ?_ ?_); rotate_left 1; (first  | rfl)) | ((with_reducible refine go_b (x := ?_) ?_ ?_); rotate_left 1; (first  | rfl)) | ((with_reducible refine go_l (x := ?_) (l := ?_) (c := ?_) ?_ ?_); rotate_left 3; (first  | rfl)) | ((with_reducible refine go_p (x := ?_) ?_ ?_); rotate_left 1; (first  | rfl)) | ((with_reducible refine go_halst rfl ?_ ?_ ?_); rfl; rfl) | (with_reducible refine go_halN rfl ?_) | (with_reducible refine go_t d0 ?_) | (with_reducible refine go_f d0 ?_) | (with_reducible refine go_t d1 ?_) | (with_reducible refine go_f d1 ?_) | ((with_reducible refine go_t ?_ ?_); (show _ = true; rfl)) | ((with_reducible refine go_f ?_ ?_); (show _ = false; rfl)) | (with_reducible refine go_ne ?_) | (with_reducible refine go_eq ?_) | (with_reducible refine go_fad ?_) | (with_reducible refine go_nil ?_))
      rfl
    · have d1 : (x == 255) = false := by simpa using h255
      rw [hs, if_neg h255]
      unfold R09_Writer_Bytes_p2 R09_Writer_Bytes_p2_b
      repeat (first | (with_reducible refine (e1' _ _).trans ?_) | (with_reducible refine (e2 _ _).trans ?_) | ((with_reducible refine go_ip (x := ?_) ?_ ?_); rotate_left 1; (first  | rfl)) | ((with_reducible refine go_bp (x := ?_) ?_ ?_); rotate_left 1; (first  | rfl)) | ((with_reducible refine go_lp (x := ?_) (l := ?_) (c := ?_) ?_ ?_); rotate_left 3; (first  | rfl)) | ((with_reducible refine go_pp (x := ?_) ?_ ?_); rotate_left 1; (first  | rfl)) | ((with_reducible refine go_i (x := ?_) ?_ ?_); rotate_left 1; (first  | rfl)) | ((with_reducible refine go_b (x := ?_) ?_ ?_); rotate_left 1; (first  | rfl)) | ((with_reducible refine go_l (x := ?_) (l := ?_) (c := ?_) ?_ ?_); rotate_left 3; (first  | rfl)) | ((with_reducible refine go_p (x := ?_) ?_ ?_); rotate_left 1; (first  | rfl)) | ((with_reducible refine go_halst rfl ?_ ?_ ?_); rfl; rfl) | (with_reducible refine go_halN rfl ?_) | (with_reducible refine go_t d0 ?_) | (with_reducible refine go_f d0 ?_) | (with_reducible refine go_t d1 ?_) | (with_reducible refine go_f d1 ?_) | ((with_reducible refine go_t ?_ ?_); (show _ = true; rfl)) | ((with_reducible refine go_f ?_ ?_); (show _ = false; rfl)) | (with_reducible refine go_ne ?_) | (with_reducible refine go_eq ?_) | (with_reducible refine go_fad ?_) | (with_reducible refine go_nil ?_))
      rfl
  · have d0 : decide (((b.length : Nat) : Int) > 0) = false := decide_eq_false (by omega)
    have : b = [] := List.length_eq_zero_iff.1 (by omega)
    subst this
    unfold R09_Writer_Bytes_p2 R09_Writer_Bytes_p2_b
    repeat (first | ((with_reducible refine go_ip (x := ?_) ?_ ?_); rotate_left 1; (first  | rfl)) | ((with_reducible refine go_bp (x := ?_) ?_ ?_); rotate_left 1; (first  | rfl)) | ((with_reducible refine go_lp (x := ?_) (l := ?_) (c := ?_) ?_ ?_); rotate_left 3; (first  | rfl)) | ((with_reducible refine go_pp (x := ?_) ?_ ?_); rotate_left 1; (first  | rfl)) | ((with_reducible refine go_i (x := ?_) ?_ ?_); rotate_left 1; (first  | rfl)) | ((with_reducible refine go_b (x := ?_) ?_ ?_); rotate_left 1; (first  | rfl)) | ((with_reducible refine go_l (x := ?_) (l := ?_) (c := ?_) ?_ ?_); rotate_left 3; (first  | rfl)) | ((with_reducible refine go_p (x := ?_) ?_ ?_); rotate_left 1; (first  | rfl)) | ((with_reducible refine go_halst rfl ?_ ?_ ?_); rfl; rfl) | (with_reducible refine go_halN rfl ?_) | (with_reducible refine go_t d0 ?_) | (with_reducible refine go_f d0 ?_) | ((with_reducible refine go_t ?_ ?_); (show _ = true; rfl)) | ((with_reducible refine go_f ?_ ?_); (show _ = false; rfl)) | (with_reducible refine go_ne ?_) | (with_reducible refine go_eq ?_) | (with_reducible refine go_fad ?_) | (with_reducible refine go_nil ?_))
    rfl
theorem p5_eq (k : Nat) {H : Heap} (qb : Option Addr) (cb : Nat) {b : List Int} (hS : Shows H qb (byt b)) (hl : b.length < 1000000) (R : Type) (KN : Option Addr → Nat → Nat → Bool → Option R) : R09_Writer_Bytes_p5 k qb b.length cb H KN = KN qb b.length cb (decide (sz b = 7)) := by
  by_cases h0 : b.length > 0
  · have d0 : decide (((b.length : Nat) : Int) > 0) = true := decide_eq_true (by omega)
    have hx : b[b.length - 1]? = b.getLast? := (List.getLast?_eq_getElem? (l := b)).symm
    obtain ⟨x, hx2⟩ : ∃ x, b.getLast? = some x := ⟨_, List.getLast?_eq_some_getLast (fun h => by rw [h] at h0; simp at h0)⟩
    obtain ⟨y, e1, e2⟩ := byte_at hS (i := b.length - 1) (x := x) (by rw [hx, hx2])
    have e1' : ∀ (R : Type) (K : Option Addr → Option R), hidx qb b.length (IntKind.wrap .i64 (((b.length : Nat) : Int) - 1)) 1 K = K y := fun R K => by
      rw [w64 (by omega) (by omega), show ((b.length : Nat) : Int) - 1 = ((b.length - 1 : Nat) : Int) from by omega]; exact e1 R K
    have hs : decide (sz b = 7) = (x == 255) := by
      unfold sz; rw [hx2]
      by_cases h : x = 255
      · subst h; rfl
      · have : (x == 255) = false := by simpa using h
        rw [this]; simp [h]
    unfold R09_Writer_Bytes_p5 R09_Writer_Bytes_p5_b
    repeat (first | (with_reducible refine (e1' _ _).trans ?_) | (with_reducible refine (e2 _ _).trans ?_) | ((with_reducible refine go_ip (x := ?_) ?_ ?_); rotate_left 1; (first  | rfl)) | ((with_reducible refine go_bp (x := ?_) ?_ ?_); rotate_left 1; (first  | rfl)) | ((with_reducible refine go_lp (x := ?_) (l := ?_) (c := ?_) ?_ ?_); rotate_left 3; (first  | rfl)) | ((with_reducible refine go_pp (x := ?_) ?_ ?_); rotate_left 1; (first  | rfl)) | ((with_reducible refine go_i (x := ?_) ?_ ?_); rotate_left 1; (first  | rfl)) | ((with_reducible refine go_b (x := ?_) ?_ ?_); rotate_left 1; (first  | rfl)) | ((with_reducible refine go_l (x := ?_) (l := ?_) (c := ?_) ?_ ?_); rotate_left 3; (first  | rfl)) | ((with_reducible refine go_p (x := ?_) ?_ ?_); rotate_left 1; (first  | rfl)) | ((with_reducible refine go_halst rfl ?_ ?_ ?_); rfl; rfl) | (with_reducible refine go_halN rfl ?_) | (with_reducible refine go_t d0 ?_) | (with_reducible refine go_f d0 ?_) | ((with_reducible refine go_t ?_ ?_); (show _ = true; rfl)) | ((with_reducible refine go_f ?_ ?_); (show _ = false; rfl)) | (with_reducible refine go_ne ?_) | (with_reducible refine go_eq ?_) | (with_reducible refine go_fad ?_) | (with_reducible refine go_nil ?_))
    rw [hs]
  · have d0 : decide (((b.length : Nat) : Int) > 0) = false := decide_eq_false (by omega)
    have : b = [] := List.length_eq_zero_iff.1 (by omega)
    subst this
    unfold R09_Writer_Bytes_p5 R09_Writer_Bytes_p5_b
    repeat (first | ((with_reducible refine go_ip (x := ?_) ?_ ?_); rotate_left 1; (first  | rfl)) | ((with_reducible refine go_bp (x := ?_) ?_ ?_); rotate_left 1; (first  | rfl)) | ((with_reducible refine go_lp (x := ?_) (l := ?_) (c := ?_) ?_ ?_); rotate_left 3; (first  | rfl)) | ((with_reducible refine go_pp (x := ?_) ?_ ?_); rotate_left 1; (first  | rfl)) | ((with_reducible refine go_i (x := ?_) ?_ ?_); rotate_left 1; (first  | rfl)) | ((with_reducible refine go_b (x := ?_) ?_ ?_); rotate_left 1; (first  | rfl)) | ((with_reducible refine go_l (x := ?_) (l := ?_) (c := ?_) ?_ ?_); rotate_left 3; (first  | rfl)) | ((with_reducible refine go_p (x := ?_) ?_ ?_); rotate_left 1; (first  | rfl)) | ((with_reducible refine go_halst rfl ?_ ?_ ?_); rfl; rfl) | (with_reducible refine go_halN rfl ?_) | (with_reducible refine go_t d0 ?_) | (with_reducible refine go_f d0 ?_) | ((with_reducible refine go_t ?_ ?_); (show _ = true; rfl)) | ((with_reducible refine go_f ?_ ?_); (show _ = false; rfl)) | (with_reducible refine go_ne ?_) | (with_reducible refine go_eq ?_) | (with_reducible refine go_fad ?_) | (with_reducible refine go_nil ?_))
    rfl
/-- One more byte. -/
theorem l1_step {k : Nat} (hk : 100 < k) {N : Nat} {H0 : Heap} {p : Nat} {q : Option Addr} {l : List Int} (h : Ur N H0 p q l) (hb : B01 l) (hl : l.length < 1000000) {b pre : List Int} (hpl : pre.length < l.length) (hbl : b.length < 1000000) {qb : Option Addr} {cb : Nat} {H : Heap} (hB : Bld H0.length 1 H qb b.length cb (byt b)) (hO : Old H0.length H0 H) :
    ∃ q' c' H', (∀ (n : Nat) (R : Type) (KE : Option Addr → Nat → Nat → Heap → Option R), R09_Writer_Bytes_l1 k KE (n + 1) (some ⟨p, 0, none⟩) qb b.length cb ((pre.length : Nat) : Int) H = R09_Writer_Bytes_l1 k KE n (some ⟨p, 0, none⟩) q' (b ++ [((val (ck l pre.length (sz b)) : Nat) : Int)]).length c' ((pre.length + sz b : Nat) : Int) H') ∧ Bld H0.length 1 H' q' (b ++ [((val (ck l pre.length (sz b)) : Nat) : Int)]).length c' (byt (b ++ [((val (ck l pre.length (sz b)) : Nat) : Int)])) ∧ Old H0.length H0 H' := by
  have hs8 := sz_le b
  have hU : Ur N H p q l := by
    obtain ⟨c, h1, h2⟩ := h.c
    exact ⟨⟨c, h1.old hO h1.lt, h2.old hO (Nat.le_refl _)⟩, h.low, h.apt⟩
  obtain ⟨c, h1, h2⟩ := hU.c
  have mm : ∀ o, hcell H p o = [Value.bool true, .slice q l.length c][o]? := fun o => h1.sees.cell o
  have d0 : decide (((pre.length : Nat) : Int) < ((l.length : Nat) : Int)) = true := decide_eq_true (by omega)
  have hv := val_lt (ck l pre.length (sz b))
  rw [ck_len] at hv
  have hv8 : 2 ^ sz b ≤ 2 ^ 8 := Nat.pow_le_pow_right (by omega) hs8
  obtain ⟨H', e1, B1, n1, s1⟩ := app1 (bytes := 1) hB (by have := hO.1; omega) (.int .u8 ((val (ck l pre.length (sz b)) : Nat) : Int)) (by omega)
  have g2 := fun R (KN : Option Addr → Option Addr → Nat → Nat → Int → Int → Option R) => p2_eq k (some ⟨p, 0, none⟩) qb cb ((pre.length : Nat) : Int) hB.shows.1 hbl R KN
  have g3 := l3_eq k hU hb hl qb b.length cb (a := pre.length) (w := sz b) (by omega) hs8 (sz b) k 0 (by omega) (by omega)
  have hv0 : ((val (ck l pre.length 0) : Nat) : Int) = 0 := rfl
  simp only [Int.natCast_zero, Nat.add_zero, hv0] at g3
  have w1 : IntKind.wrap .u8 ((val (ck l pre.length (sz b)) : Nat) : Int) = ((val (ck l pre.length (sz b)) : Nat) : Int) := u8_in _ ⟨by omega, by omega⟩
  refine ⟨some ⟨H.length + 1, 0, none⟩, unk, H', fun n R KE => ?_, ?_, ⟨by have := hO.1; omega, fun i hi => ?_⟩⟩
  · have hle : (b ++ [((val (ck l pre.length (sz b)) : Nat) : Int)]).length = b.length + 1 := by simp
    rw [hle]
    unfold R09_Writer_Bytes_l1 R09_Writer_Bytes_l1_b
    repeat (first | ((with_reducible refine go_ip (x := ?_) ?_ ?_); rotate_left 1; (first | ((with_reducible refine (mm _).trans ?_); rfl) | rfl)) | ((with_reducible refine go_bp (x := ?_) ?_ ?_); rotate_left 1; (first | ((with_reducible refine (mm _).trans ?_); rfl) | rfl)) | ((with_reducible refine go_lp (x := ?_) (l := ?_) (c := ?_) ?_ ?_); rotate_left 3; (first | ((with_reducible refine (mm _).trans ?_); rfl) | rfl)) | ((with_reducible refine go_pp (x := ?_) ?_ ?_); rotate_left 1; (first | ((with_reducible refine (mm _).trans ?_); rfl) | rfl)) | ((with_reducible refine go_i (x := ?_) ?_ ?_); rotate_left 1; (first | ((with_reducible refine (mm _).trans ?_); rfl) | rfl)) | ((with_reducible refine go_b (x := ?_) ?_ ?_); rotate_left 1; (first | ((with_reducible refine (mm _).trans ?_); rfl) | rfl)) | ((with_reducible refine go_l (x := ?_) (l := ?_) (c := ?_) ?_ ?_); rotate_left 3; (first | ((with_reducible refine (mm _).trans ?_); rfl) | rfl)) | ((with_reducible refine go_p (x := ?_) ?_ ?_); rotate_left 1; (first | ((with_reducible refine (mm _).trans ?_); rfl) | rfl)) | ((with_reducible refine go_halst rfl ?_ ?_ ?_); rfl; rfl) | (with_reducible refine go_halN rfl ?_) | (with_reducible refine go_t d0 ?_) | (with_reducible refine go_f d0 ?_) | ((with_reducible refine go_t ?_ ?_); (show _ = true; rfl)) | ((with_reducible refine go_f ?_ ?_); (show _ = false; rfl)) | (with_reducible refine go_ne ?_) | (with_reducible refine go_eq ?_) | (with_reducible refine go_fad ?_) | (with_reducible refine go_nil ?_))
    refine (g2 _ _).trans ?_
    refine (g3 _ _).trans ?_
    try dsimp only
    rw [w1]
    repeat (first | (with_reducible refine (e1 _ _).trans ?_) | ((with_reducible refine go_ip (x := ?_) ?_ ?_); rotate_left 1; (first  | rfl)) | ((with_reducible refine go_bp (x := ?_) ?_ ?_); rotate_left 1; (first  | rfl)) | ((with_reducible refine go_lp (x := ?_) (l := ?_) (c := ?_) ?_ ?_); rotate_left 3; (first  | rfl)) | ((with_reducible refine go_pp (x := ?_) ?_ ?_); rotate_left 1; (first  | rfl)) | ((with_reducible refine go_i (x := ?_) ?_ ?_); rotate_left 1; (first  | rfl)) | ((with_reducible refine go_b (x := ?_) ?_ ?_); rotate_left 1; (first  | rfl)) | ((with_reducible refine go_l (x := ?_) (l := ?_) (c := ?_) ?_ ?_); rotate_left 3; (first  | rfl)) | ((with_reducible refine go_p (x := ?_) ?_ ?_); rotate_left 1; (first  | rfl)) | ((with_reducible refine go_halst rfl ?_ ?_ ?_); rfl; rfl) | (with_reducible refine go_halN rfl ?_) | ((with_reducible refine go_t ?_ ?_); (show _ = true; rfl)) | ((with_reducible refine go_f ?_ ?_); (show _ = false; rfl)) | (with_reducible refine go_ne ?_) | (with_reducible refine go_eq ?_) | (with_reducible refine go_fad ?_) | (with_reducible refine go_nil ?_))
    cases n <;> rfl
  · rw [byt_app, show (b ++ [((val (ck l pre.length (sz b)) : Nat) : Int)]).length = b.length + 1 from by simp]
    exact B1
  · rw [s1 i (by have := hO.1; omega) (fun a ha => by have := Bld.qlow hB a ha; omega), hO.2 i hi]
theorem l1_eq {k : Nat} (hk : 100 < k) {N : Nat} {H0 : Heap} {p : Nat} {q : Option Addr} {l : List Int} (h : Ur N H0 p q l) (hb : B01 l) (hl : l.length < 1000000) {b pre : List Int} (hF : Full b pre) : ∀ rest, l = pre ++ rest →
    ∃ q' c' H', (∀ (n : Nat) (R : Type) (KE : Option Addr → Nat → Nat → Heap → Option R), R09_Writer_Bytes_l1 k KE (n + b.length) (some ⟨p, 0, none⟩) none 0 0 0 H0 = R09_Writer_Bytes_l1 k KE n (some ⟨p, 0, none⟩) q' b.length c' ((pre.length : Nat) : Int) H') ∧ Bld H0.length 1 H' q' b.length c' (byt b) ∧ Old H0.length H0 H' := by
  induction hF with
  | nil => intro rest hr; exact ⟨none, 0, H0, fun n R KE => rfl, Bld.nil _ _ _, .refl _ _⟩
  | @snoc b pre c hF hc ih =>
    intro rest hr
    have hs7 := sz_ge b
    have hlen : l.length = pre.length + (c.length + rest.length) := by rw [hr, List.length_append, List.length_append]; omega
    have hbl := hF.len
    obtain ⟨q1, c1, H1, e1, B1, o1⟩ := ih (c ++ rest) (by rw [hr, List.append_assoc])
    obtain ⟨q2, c2, H2, e2, B2, o2⟩ := l1_step (k := k) (by omega) h hb hl (pre := pre) (by omega) (by omega) B1 o1
    have hck : ck l pre.length (sz b) = c := by rw [hr, ← hc, List.append_assoc]; exact ck_mid _ _ _
    rw [hck] at e2 B2
    refine ⟨q2, c2, H2, fun n R KE => ?_, B2, o2⟩
    rw [show n + (b ++ [((val c : Nat) : Int)]).length = (n + 1) + b.length from by simp; omega, e1 (n + 1) R KE, e2 n R KE, show (pre ++ c).length = pre.length + sz b from by rw [List.length_append, hc]]
/-- The bytes of the reference's writer. -/
theorem uBytes_eq {k : Nat} (hk : 1100000 < k) {N : Nat} {H : Heap} {p : Nat} {q : Option Addr} {l : List Int} (h : Ur N H p q l) (hb : B01 l) (hl : l.length < 1000000) {b pre t : List Int} (hlt : l = pre ++ t) (hF : Full b pre) (ht : t.length < sz b) :
    ∃ q' c' H', (∀ (R : Type) (K : Option Addr → Nat → Nat → Heap → Option R), R09_Writer_Bytes k (some ⟨p, 0, none⟩) H K = K q' (fnB b t).length c' H') ∧ Shows H' q' (byt (fnB b t)) ∧ Old H.length H H' := by
  have hs8 := sz_le b
  have hs7 := sz_ge b
  have hbl := hF.len
  have hlen : l.length = pre.length + t.length := by rw [hlt, List.length_append]
  obtain ⟨q1, c1, H1, e1, B1, o1⟩ := l1_eq (k := k) (by omega) h hb hl hF t hlt
  have e1' := fun R KE => e1 (k - b.length) R KE
  rw [show k - b.length + b.length = k from by omega] at e1'
  obtain ⟨c, h1, h2⟩ := h.c
  have m0 : hcell H p 0 = some (.bool true) := h1.sees.cell 0
  by_cases h0 : t.length = 0
  · have hm : hcell H1 p 1 = some (.slice q l.length c) := (h1.old o1 h1.lt).sees.cell 1
    have d0 : decide (((pre.length : Nat) : Int) < ((l.length : Nat) : Int)) = false := decide_eq_false (by omega)
    have e2 : ∀ (R : Type) (KE : Option Addr → Nat → Nat → Heap → Option R), R09_Writer_Bytes_l1 k KE (k - b.length) (some ⟨p, 0, none⟩) q1 b.length c1 ((pre.length : Nat) : Int) H1 = KE q1 b.length c1 H1 := fun R KE => by
      obtain ⟨n, hn⟩ : ∃ n, k - b.length = n + 1 := ⟨k - b.length - 1, by omega⟩
      rw [hn]
      unfold R09_Writer_Bytes_l1 R09_Writer_Bytes_l1_b
      repeat (first | ((with_reducible refine go_ip (x := ?_) ?_ ?_); rotate_left 1; (first  | exact hm | rfl)) | ((with_reducible refine go_bp (x := ?_) ?_ ?_); rotate_left 1; (first  | exact hm | rfl)) | ((with_reducible refine go_lp (x := ?_) (l := ?_) (c := ?_) ?_ ?_); rotate_left 3; (first  | exact hm | rfl)) | ((with_reducible refine go_pp (x := ?_) ?_ ?_); rotate_left 1; (first  | exact hm | rfl)) | ((with_reducible refine go_i (x := ?_) ?_ ?_); rotate_left 1; (first  | exact hm | rfl)) | ((with_reducible refine go_b (x := ?_) ?_ ?_); rotate_left 1; (first  | exact hm | rfl)) | ((with_reducible refine go_l (x := ?_) (l := ?_) (c := ?_) ?_ ?_); rotate_left 3; (first  | exact hm | rfl)) | ((with_reducible refine go_p (x := ?_) ?_ ?_); rotate_left 1; (first  | exact hm | rfl)) | ((with_reducible refine go_halst rfl ?_ ?_ ?_); rfl; rfl) | (with_reducible refine go_halN rfl ?_) | (with_reducible refine go_t d0 ?_) | (with_reducible refine go_f d0 ?_) | ((with_reducible refine go_t ?_ ?_); (show _ = true; rfl)) | ((with_reducible refine go_f ?_ ?_); (show _ = false; rfl)) | (with_reducible refine go_ne ?_) | (with_reducible refine go_eq ?_) | (with_reducible refine go_fad ?_) | (with_reducible refine go_nil ?_))
      rfl
    have g5 := fun R KN => p5_eq k q1 c1 B1.shows.1 (by omega) R KN
    by_cases h7 : sz b = 7
    · obtain ⟨H2, e3, B3, n3, s3⟩ := app1 (bytes := 1) B1 (by have := o1.1; omega) (.int .u8 0) (by omega)
      have d7 : decide (sz b = 7) = true := decide_eq_true h7
      have hfn : fnB b t = b ++ [0] := by unfold fnB; rw [if_pos h0, if_pos h7]
      rw [hfn]
      refine ⟨some ⟨H1.length + 1, 0, none⟩, unk, H2, fun R K => ?_, ?_, ⟨by have := o1.1; omega, fun i hi => ?_⟩⟩
      · unfold R09_Writer_Bytes R09_Writer_Bytes_b R09_Writer_Bytes_p0 R09_Writer_Bytes_p0_b
        repeat (first | ((with_reducible refine go_ip (x := ?_) ?_ ?_); rotate_left 1; (first  | exact m0 | rfl)) | ((with_reducible refine go_bp (x := ?_) ?_ ?_); rotate_left 1; (first  | exact m0 | rfl)) | ((with_reducible refine go_lp (x := ?_) (l := ?_) (c := ?_) ?_ ?_); rotate_left 3; (first  | exact m0 | rfl)) | ((with_reducible refine go_pp (x := ?_) ?_ ?_); rotate_left 1; (first  | exact m0 | rfl)) | ((with_reducible refine go_i (x := ?_) ?_ ?_); rotate_left 1; (first  | exact m0 | rfl)) | ((with_reducible refine go_b (x := ?_) ?_ ?_); rotate_left 1; (first  | exact m0 | rfl)) | ((with_reducible refine go_l (x := ?_) (l := ?_) (c := ?_) ?_ ?_); rotate_left 3; (first  | exact m0 | rfl)) | ((with_reducible refine go_p (x := ?_) ?_ ?_); rotate_left 1; (first  | exact m0 | rfl)) | ((with_reducible refine go_halst rfl ?_ ?_ ?_); rfl; rfl) | (with_reducible refine go_halN rfl ?_) | ((with_reducible refine go_t ?_ ?_); (show _ = true; rfl)) | ((with_reducible refine go_f ?_ ?_); (show _ = false; rfl)) | (with_reducible refine go_ne ?_) | (with_reducible refine go_eq ?_) | (with_reducible refine go_fad ?_) | (with_reducible refine go_nil ?_))
        refine (e1' _ _).trans ((e2 _ _).trans ((g5 _ _).trans ?_))
        repeat (first | (with_reducible refine (e3 _ _).trans ?_) | ((with_reducible refine go_ip (x := ?_) ?_ ?_); rotate_left 1; (first  | rfl)) | ((with_reducible refine go_bp (x := ?_) ?_ ?_); rotate_left 1; (first  | rfl)) | ((with_reducible refine go_lp (x := ?_) (l := ?_) (c := ?_) ?_ ?_); rotate_left 3; (first  | rfl)) | ((with_reducible refine go_pp (x := ?_) ?_ ?_); rotate_left 1; (first  | rfl)) | ((with_reducible refine go_i (x := ?_) ?_ ?_); rotate_left 1; (first  | rfl)) | ((with_reducible refine go_b (x := ?_) ?_ ?_); rotate_left 1; (first  | rfl)) | ((with_reducible refine go_l (x := ?_) (l := ?_) (c := ?_) ?_ ?_); rotate_left 3; (first  | rfl)) | ((with_reducible refine go_p (x := ?_) ?_ ?_); rotate_left 1; (first  | rfl)) | ((with_reducible refine go_halst rfl ?_ ?_ ?_); rfl; rfl) | (with_reducible refine go_halN rfl ?_) | (with_reducible refine go_t d7 ?_) | (with_reducible refine go_f d7 ?_) | ((with_reducible refine go_t ?_ ?_); (show _ = true; rfl)) | ((with_reducible refine go_f ?_ ?_); (show _ = false; rfl)) | (with_reducible refine go_ne ?_) | (with_reducible refine go_eq ?_) | (with_reducible refine go_fad ?_) | (with_reducible refine go_nil ?_))
        rw [List.length_append]; rfl
      · rw [byt_app]; exact B3.shows.1
      · rw [s3 i (by have := o1.1; omega) (fun a ha => by have := Bld.qlow B1 a ha; omega), o1.2 i hi]
    · have d7 : decide (sz b = 7) = false := decide_eq_false h7
      have hfn : fnB b t = b := by unfold fnB; rw [if_pos h0, if_neg h7]
      rw [hfn]
      refine ⟨q1, c1, H1, fun R K => ?_, B1.shows.1, o1⟩
      unfold R09_Writer_Bytes R09_Writer_Bytes_b R09_Writer_Bytes_p0 R09_Writer_Bytes_p0_b
      repeat (first | ((with_reducible refine go_ip (x := ?_) ?_ ?_); rotate_left 1; (first  | exact m0 | rfl)) | ((with_reducible refine go_bp (x := ?_) ?_ ?_); rotate_left 1; (first  | exact m0 | rfl)) | ((with_reducible refine go_lp (x := ?_) (l := ?_) (c := ?_) ?_ ?_); rotate_left 3; (first  | exact m0 | rfl)) | ((with_reducible refine go_pp (x := ?_) ?_ ?_); rotate_left 1; (first  | exact m0 | rfl)) | ((with_reducible refine go_i (x := ?_) ?_ ?_); rotate_left 1; (first  | exact m0 | rfl)) | ((with_reducible refine go_b (x := ?_) ?_ ?_); rotate_left 1; (first  | exact m0 | rfl)) | ((with_reducible refine go_l (x := ?_) (l := ?_) (c := ?_) ?_ ?_); rotate_left 3; (first  | exact m0 | rfl)) | ((with_reducible refine go_p (x := ?_) ?_ ?_); rotate_left 1; (first  | exact m0 | rfl)) | ((with_reducible refine go_halst rfl ?_ ?_ ?_); rfl; rfl) | (with_reducible refine go_halN rfl ?_) | ((with_reducible refine go_t ?_ ?_); (show _ = true; rfl)) | ((with_reducible refine go_f ?_ ?_); (show _ = false; rfl)) | (with_reducible refine go_ne ?_) | (with_reducible refine go_eq ?_) | (with_reducible refine go_fad ?_) | (with_reducible refine go_nil ?_))
      refine (e1' _ _).trans ((e2 _ _).trans ((g5 _ _).trans ?_))
      repeat (first | ((with_reducible refine go_ip (x := ?_) ?_ ?_); rotate_left 1; (first  | rfl)) | ((with_reducible refine go_bp (x := ?_) ?_ ?_); rotate_left 1; (first  | rfl)) | ((with_reducible refine go_lp (x := ?_) (l := ?_) (c := ?_) ?_ ?_); rotate_left 3; (first  | rfl)) | ((with_reducible refine go_pp (x := ?_) ?_ ?_); rotate_left 1; (first  | rfl)) | ((with_reducible refine go_i (x := ?_) ?_ ?_); rotate_left 1; (first  | rfl)) | ((with_reducible refine go_b (x := ?_) ?_ ?_); rotate_left 1; (first  | rfl)) | ((with_reducible refine go_l (x := ?_) (l := ?_) (c := ?_) ?_ ?_); rotate_left 3; (first  | rfl)) | ((with_reducible refine go_p (x := ?_) ?_ ?_); rotate_left 1; (first  | rfl)) | ((with_reducible refine go_halst rfl ?_ ?_ ?_); rfl; rfl) | (with_reducible refine go_halN rfl ?_) | (with_reducible refine go_t d7 ?_) | (with_reducible refine go_f d7 ?_) | ((with_reducible refine go_t ?_ ?_); (show _ = true; rfl)) | ((with_reducible refine go_f ?_ ?_); (show _ = false; rfl)) | (with_reducible refine go_ne ?_) | (with_reducible refine go_eq ?_) | (with_reducible refine go_fad ?_) | (with_reducible refine go_nil ?_))
      rfl
  · obtain ⟨q2, c2, H2, e2, B2, o2⟩ := l1_step (k := k) (by omega) h hb hl (pre := pre) (by omega) (by omega) B1 o1
    have hck : val (ck l pre.length (sz b)) = val t * 2 ^ (sz b - t.length) := by rw [hlt, ck_end _ _ _ (by omega), val_zeros]
    have hfn : fnB b t = b ++ [((val t * 2 ^ (sz b - t.length) : Nat) : Int)] := by unfold fnB; rw [if_neg h0]
    rw [hck, ← hfn] at e2 B2
    have hfl : (fnB b t).length = b.length + 1 := by rw [hfn]; simp
    have hm : hcell H2 p 1 = some (.slice q l.length c) := (h1.old o2 h1.lt).sees.cell 1
    have d0 : decide (((pre.length + sz b : Nat) : Int) < ((l.length : Nat) : Int)) = false := decide_eq_false (by omega)
    have e3 : ∀ (R : Type) (KE : Option Addr → Nat → Nat → Heap → Option R), R09_Writer_Bytes_l1 k KE (k - b.length) (some ⟨p, 0, none⟩) q1 b.length c1 ((pre.length : Nat) : Int) H1 = KE q2 (fnB b t).length c2 H2 := fun R KE => by
      obtain ⟨n, hn⟩ : ∃ n, k - b.length = n + 1 + 1 := ⟨k - b.length - 2, by omega⟩
      rw [hn, e2 (n + 1) R KE]
      unfold R09_Writer_Bytes_l1 R09_Writer_Bytes_l1_b
      repeat (first | ((with_reducible refine go_ip (x := ?_) ?_ ?_); rotate_left 1; (first  | exact hm | rfl)) | ((with_reducible refine go_bp (x := ?_) ?_ ?_); rotate_left 1; (first  | exact hm | rfl)) | ((with_reducible refine go_lp (x := ?_) (l := ?_) (c := ?_) ?_ ?_); rotate_left 3; (first  | exact hm | rfl)) | ((with_reducible refine go_pp (x := ?_) ?_ ?_); rotate_left 1; (first  | exact hm | rfl)) | ((with_reducible refine go_i (x := ?_) ?_ ?_); rotate_left 1; (first  | exact hm | rfl)) | ((with_reducible refine go_b (x := ?_) ?_ ?_); rotate_left 1; (first  | exact hm | rfl)) | ((with_reducible refine go_l (x := ?_) (l := ?_) (c := ?_) ?_ ?_); rotate_left 3; (first  | exact hm | rfl)) | ((with_reducible refine go_p (x := ?_) ?_ ?_); rotate_left 1; (first  | exact hm | rfl)) | ((with_reducible refine go_halst rfl ?_ ?_ ?_); rfl; rfl) | (with_reducible refine go_halN rfl ?_) | (with_reducible refine go_t d0 ?_) | (with_reducible refine go_f d0 ?_) | ((with_reducible refine go_t ?_ ?_); (show _ = true; rfl)) | ((with_reducible refine go_f ?_ ?_); (show _ = false; rfl)) | (with_reducible refine go_ne ?_) | (with_reducible refine go_eq ?_) | (with_reducible refine go_fad ?_) | (with_reducible refine go_nil ?_))
      rfl
    have g5 := fun R KN => p5_eq k q2 c2 B2.shows.1 (by omega) R KN
    have h8 : sz (fnB b t) ≠ 7 := by
      rw [hfn, sz_snoc]
      have hpw : 2 ^ (sz b - t.length) = 2 * 2 ^ (sz b - t.length - 1) := by rw [← Nat.pow_succ']; congr 1; omega
      rw [if_neg]
      · omega
      · intro hh
        have h3 : val t * 2 ^ (sz b - t.length) = 255 := by omega
        rw [hpw, ← Nat.mul_assoc, Nat.mul_comm (val t) 2, Nat.mul_assoc] at h3
        omega
    have d7 : decide (sz (fnB b t) = 7) = false := decide_eq_false h8
    refine ⟨q2, c2, H2, fun R K => ?_, B2.shows.1, o2⟩
    unfold R09_Writer_Bytes R09_Writer_Bytes_b R09_Writer_Bytes_p0 R09_Writer_Bytes_p0_b
    repeat (first | ((with_reducible refine go_ip (x := ?_) ?_ ?_); rotate_left 1; (first  | exact m0 | rfl)) | ((with_reducible refine go_bp (x := ?_) ?_ ?_); rotate_left 1; (first  | exact m0 | rfl)) | ((with_reducible refine go_lp (x := ?_) (l := ?_) (c := ?_) ?_ ?_); rotate_left 3; (first  | exact m0 | rfl)) | ((with_reducible refine go_pp (x := ?_) ?_ ?_); rotate_left 1; (first  | exact m0 | rfl)) | ((with_reducible refine go_i (x := ?_) ?_ ?_); rotate_left 1; (first  | exact m0 | rfl)) | ((with_reducible refine go_b (x := ?_) ?_ ?_); rotate_left 1; (first  | exact m0 | rfl)) | ((with_reducible refine go_l (x := ?_) (l := ?_) (c := ?_) ?_ ?_); rotate_left 3; (first  | exact m0 | rfl)) | ((with_reducible refine go_p (x := ?_) ?_ ?_); rotate_left 1; (first  | exact m0 | rfl)) | ((with_reducible refine go_halst rfl ?_ ?_ ?_); rfl; rfl) | (with_reducible refine go_halN rfl ?_) | ((with_reducible refine go_t ?_ ?_); (show _ = true; rfl)) | ((with_reducible refine go_f ?_ ?_); (show _ = false; rfl)) | (with_reducible refine go_ne ?_) | (with_reducible refine go_eq ?_) | (with_reducible refine go_fad ?_) | (with_reducible refine go_nil ?_))
    refine (e1' _ _).trans ((e3 _ _).trans ((g5 _ _).trans ?_))
    repeat (first | ((with_reducible refine go_ip (x := ?_) ?_ ?_); rotate_left 1; (first  | rfl)) | ((with_reducible refine go_bp (x := ?_) ?_ ?_); rotate_left 1; (first  | rfl)) | ((with_reducible refine go_lp (x := ?_) (l := ?_) (c := ?_) ?_ ?_); rotate_left 3; (first  | rfl)) | ((with_reducible refine go_pp (x := ?_) ?_ ?_); rotate_left 1; (first  | rfl)) | ((with_reducible refine go_i (x := ?_) ?_ ?_); rotate_left 1; (first  | rfl)) | ((with_reducible refine go_b (x := ?_) ?_ ?_); rotate_left 1; (first  | rfl)) | ((with_reducible refine go_l (x := ?_) (l := ?_) (c := ?_) ?_ ?_); rotate_left 3; (first  | rfl)) | ((with_reducible refine go_p (x := ?_) ?_ ?_); rotate_left 1; (first  | rfl)) | ((with_reducible refine go_halst rfl ?_ ?_ ?_); rfl; rfl) | (with_reducible refine go_halN rfl ?_) | (with_reducible refine go_t d7 ?_) | (with_reducible refine go_f d7 ?_) | ((with_reducible refine go_t ?_ ?_); (show _ = true; rfl)) | ((with_reducible refine go_f ?_ ?_); (show _ = false; rfl)) | (with_reducible refine go_ne ?_) | (with_reducible refine go_eq ?_) | (with_reducible refine go_fad ?_) | (with_reducible refine go_nil ?_))
    rfl
end Go.Proofs.Ytiapgcgpdndkiaa.Sh
