/- For every bound, step and dead-zone parameter, Planes returns the reference's number of bit planes, and the chapter's examples hold. No condition. -/
import Derived.Test.YtloncbnceccbaaaQx8
import Derived.Test.YtloncbnceccbaaaArith
namespace Go.Proofs.Ytloncbnceccbaaa.Pure
open Go.RowKit Go.Proofs.Ytloncbnceccbaaa.Q Go.Proofs.Ytloncbnceccbaaa.Arith Go.Proofs.YtloncbnceccbaaaW.PrintWords Go.Proofs.YtloncbnceccbaaaW.PrintLast Go.Proofs.YtloncbnceccbaaaW.PrintMore
/-- The number of binary digits. -/
def dg (n : Nat) : Nat := if n = 0 then 0 else Nat.log2 n + 1
theorem dg_half {n : Nat} (h : 0 < n) : dg n = dg (n / 2) + 1 := by
  unfold dg
  rw [if_neg (by omega), Nat.log2_def]
  by_cases a : n ≥ 2
  · rw [if_pos a, if_neg (by omega)]
  · rw [if_neg a, if_pos (by omega)]
theorem dg_pow (k : Nat) : ∀ n : Nat, 2 ^ k ≤ n → dg n = dg (n / 2 ^ k) + k := by
  induction k with
  | zero =>
    intro n _
    simp
  | succ k ih =>
    intro n h
    have h0 : 0 < 2 ^ k := Nat.two_pow_pos k
    rw [Nat.pow_succ] at h
    rw [dg_half (by omega), ih (n / 2) (by omega), Nat.div_div_eq_div_mul, Nat.mul_comm 2, ← Nat.pow_succ, Nat.add_assoc]
theorem bt_len (i : Nat) (h : i < 256) : bt len8tab (i : Int) = (dg i : Nat) := by
  have : ∀ i : Fin 256, bt len8tab ((i.val : Nat) : Int) = ((dg i.val : Nat) : Int) := by decide +kernel
  exact this ⟨i, h⟩
theorem dg_le {n k : Nat} (h : n < 2 ^ k) : dg n ≤ k := by
  unfold dg
  by_cases a : n = 0
  · rw [if_pos a]; exact Nat.zero_le _
  · rw [if_neg a]
    exact (Nat.log2_lt a).2 h
theorem len64_j (k n : Nat) (x : Int) (hn : n < 4294967296) (h0 : 0 ≤ x) (h1 : x ≤ 32) : bits_Len64.j0 (k + 1) (n : Int) x = some (x + dg n) := by
  simp only [bits_Len64.j0]
  by_cases a : (n : Int) ≥ 65536
  · rw [if_pos a]
    have e := dg_pow 16 n (by omega)
    by_cases b : (n : Int) / 65536 ≥ 256
    · rw [if_pos b, if_pos (by omega), if_pos (by omega)]
      have e2 := dg_pow 8 (n / 2 ^ 16) (by omega)
      have e3 : (n : Int) / 65536 / 256 % 256 = ((n / 2 ^ 16 / 2 ^ 8 : Nat) : Int) := by omega
      rw [e3, bt_len _ (by omega), e, e2]
      have := dg_le (n := n / 2 ^ 16 / 2 ^ 8) (k := 8) (by omega)
      rw [wid (x := x + 16) (by omega) (by omega), wid (x := x + 16 + 8) (by omega) (by omega), wid (x := ((dg (n / 2 ^ 16 / 2 ^ 8) : Nat) : Int)) (by omega) (by omega), wid (by omega) (by omega)]
      congr 1
      omega
    · rw [if_neg b, if_pos (by omega), if_pos (by omega)]
      have e3 : (n : Int) / 65536 % 256 = ((n / 2 ^ 16 : Nat) : Int) := by omega
      rw [e3, bt_len _ (by omega), e]
      have := dg_le (n := n / 2 ^ 16) (k := 8) (by omega)
      rw [wid (x := x + 16) (by omega) (by omega), wid (x := ((dg (n / 2 ^ 16) : Nat) : Int)) (by omega) (by omega), wid (by omega) (by omega)]
      congr 1
      omega
  · rw [if_neg a]
    by_cases b : (n : Int) ≥ 256
    · rw [if_pos b, if_pos (by omega), if_pos (by omega)]
      have e2 := dg_pow 8 n (by omega)
      have e3 : (n : Int) / 256 % 256 = ((n / 2 ^ 8 : Nat) : Int) := by omega
      rw [e3, bt_len _ (by omega), e2]
      have := dg_le (n := n / 2 ^ 8) (k := 8) (by omega)
      rw [wid (x := x + 8) (by omega) (by omega), wid (x := ((dg (n / 2 ^ 8) : Nat) : Int)) (by omega) (by omega), wid (by omega) (by omega)]
      congr 1
      omega
    · rw [if_neg b, if_pos (by omega), if_pos (by omega)]
      have e3 : (n : Int) % 256 = (n : Int) := by omega
      rw [e3, bt_len _ (by omega)]
      have := dg_le (n := n) (k := 8) (by omega)
      rw [wid (x := ((dg n : Nat) : Int)) (by omega) (by omega), wid (by omega) (by omega)]
theorem len64_f (k n : Nat) (hn : n < 18446744073709551616) : bits_Len64.f (k + 1) (n : Int) = some ((dg n : Nat) : Int) := by
  unfold bits_Len64.f
  by_cases a : (n : Int) ≥ 4294967296
  · rw [if_pos a, show (n : Int) / 4294967296 = ((n / 2 ^ 32 : Nat) : Int) by omega, len64_j k _ 32 (by omega) (by decide) (by decide), dg_pow 32 n (by omega)]
    congr 1
    omega
  · rw [if_neg a, len64_j k _ 0 (by omega) (by decide) (by decide), Int.zero_add]
theorem digits_l (k n : Nat) (x : Int) (hn : n < 2 ^ k) (h0 : 0 ≤ x) (h1 : x + k ≤ 1000) (hk : k ≤ 60) : waveletref08_Digits.l0 (k + 1) x (n : Int) = some (x + dg n) := by
  induction k generalizing n x with
  | zero =>
    simp only [waveletref08_Digits.l0]
    obtain rfl : n = 0 := by omega
    rw [if_neg (by decide)]
    simp [dg]
  | succ k ih =>
    rw [waveletref08_Digits.l0]
    by_cases a : (n : Int) > 0
    · have hb : n < 2 ^ 60 := Nat.lt_of_lt_of_le hn (Nat.pow_le_pow_right (by decide) hk)
      rw [if_pos a, floordiv_f (by omega) (by omega) (by decide), Option.bind_some, wid (by omega) (by omega), show (n : Int) / 2 = ((n / 2 : Nat) : Int) by omega]
      rw [Nat.pow_succ] at hn
      rw [ih (n / 2) (x + 1) (by omega) (by omega) (by omega) (by omega), dg_half (n := n) (by omega)]
      congr 1
      omega
    · rw [if_neg a]
      obtain rfl : n = 0 := by omega
      simp [dg]
theorem QuantPlanes : waveletlaw08_QuantPlanes.Pure := by
  intro c s d _ _ _
  refine ⟨80, ?_⟩
  unfold waveletlaw08_QuantPlanes.f quant_Planes.f waveletref08_Planes.f
  rw [valid_f, ref_valid_f, example_holds]
  simp only [Option.bind_some, waveletref08_Planes.j0, quant_Planes.j0]
  by_cases hc : c < 0
  · rw [if_pos hc, decide_eq_true hc]
    by_cases hv : Vd s d
    · simp [hv]
    · simp [hv]
  · rw [if_neg hc, decide_eq_false hc]
    by_cases hv : Vd s d
    · have hq : 0 ≤ Q c s d := by
        unfold Q
        have hn := clamp_bounds c (m := 281474976710656) (by decide)
        have h0 : 0 ≤ clamp c 281474976710656 := by unfold clamp mn mx; omega
        have ht := thr_bounds hv
        rw [if_pos hv, qz_nonneg hv h0]
        split
        · decide
        · have := quot_bounds (x := clamp c 281474976710656 - thr s d) (s := s) (by omega) hv.1
          omega
      have hb := Q_bounds c s d
      obtain ⟨n, hn⟩ : ∃ n : Nat, Q c s d = (n : Int) := ⟨(Q c s d).toNat, by omega⟩
      have hw : IntKind.u64.wrap (n : Int) = (n : Int) := by
        simp [IntKind.wrap, IntKind.bits, IntKind.signed]
        omega
      have hl := len64_f 78 n (by omega)
      have hd : waveletref08_Digits.f 79 (n : Int) = some ((dg n : Nat) : Int) := by
        have h60 := digits_l 60 n 0 (by omega) (by decide) (by decide) (by decide)
        rw [Int.zero_add] at h60
        exact at_rounds (g := fun k => waveletref08_Digits.f k (n : Int)) (waveletref08_Digits.mono _) (k := 61) (k' := 79) (by decide) h60
      simp [hv, quantize_f, ref_quantize_f 77, hn, hw, hl, hd]
    · simp [hv]
end Go.Proofs.Ytloncbnceccbaaa.Pure
