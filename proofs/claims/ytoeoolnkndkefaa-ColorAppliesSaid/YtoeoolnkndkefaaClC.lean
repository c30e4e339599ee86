/- Color: powers of two. -/
import Derived.Test.YtoeoolnkndkefaaClA
import Derived.Test.YtoeoolnkndkefaaSh7
import Derived.Test.YtoeoolnkndkefaaSh12
import Derived.Test.YtoeoolnkndkefaaSh2
set_option linter.unusedVariables false
set_option linter.unusedSimpArgs false
namespace Go.Proofs.Ytoeoolnkndkefaa.Sh
open Go.Proofs.Ytoeoolnkndkefaa.FW
theorem power_loop (k : Nat) : ∀ (m n i : Nat), m < n → ∀ (N : Nat), N = i + m → N ≤ 62 → ∀ (R : Type) (KE : Int → Option R), R07_power_l0 k KE n (N : Int) ((2 ^ i : Nat) : Int) (i : Int) = KE ((2 ^ N : Nat) : Int) := by
  intro m
  induction m with
  | zero =>
    intro n i hn N hN hl R KE
    obtain ⟨n, rfl⟩ : ∃ n', n = n' + 1 := ⟨n - 1, by omega⟩
    have : N = i := by omega
    subst this
    have ed : decide ((N : Int) < (N : Int)) = false := decide_eq_false (by omega)
    simp only [R07_power_l0, R07_power_l0_b, ed, cond_false]
  | succ m ih =>
    intro n i hn N hN hl R KE
    obtain ⟨n, rfl⟩ : ∃ n', n = n' + 1 := ⟨n - 1, by omega⟩
    have ed : decide ((i : Int) < (N : Int)) = true := decide_eq_true (by omega)
    have hp : 2 ^ (i + 1) ≤ 2 ^ 62 := Nat.pow_le_pow_right (by omega) (by omega)
    have hp2 : 2 ^ (i + 1) = 2 ^ i * 2 := Nat.pow_succ 2 i
    have e1 : IntKind.wrap .i64 (2 * ((2 ^ i : Nat) : Int)) = ((2 ^ (i + 1) : Nat) : Int) := by
      rw [w64 (by omega) (by omega), hp2]; omega
    have e2 : IntKind.wrap .i64 ((i : Int) + 1) = ((i + 1 : Nat) : Int) := by rw [w64 (by omega) (by omega)]; rfl
    simp only [R07_power_l0, R07_power_l0_b, ed, cond_true, e1, e2]
    exact ih n (i + 1) (by omega) N (by omega) hl R KE
/-- 2^n. -/
def p2 (n : Int) : Int := ((2 ^ n.toNat : Nat) : Int)
theorem power_eq {R : Type} (k : Nat) (hk : 70 < k) {n : Int} (h0 : 0 ≤ n) (h1 : n ≤ 62) (K : Int → Option R) : R07_power k n K = K (p2 n) := by
  unfold R07_power R07_power_b
  obtain ⟨N, rfl⟩ : ∃ N : Nat, n = N := ⟨n.toNat, by omega⟩
  have := power_loop k N k 0 (by omega) N (by omega) (by omega) R K
  simp only [Nat.pow_zero, Int.natCast_zero] at this
  exact this
theorem shl_eq {R : Type} {n : Int} (h0 : 0 ≤ n) (h1 : n ≤ 62) (K : Int → Option R) : hbin .shl .i64 1 n K = K (p2 n) := by
  simp only [hbin]
  rw [if_neg (by omega)]
  have hp : 2 ^ n.toNat ≤ 2 ^ 62 := Nat.pow_le_pow_right (by omega) (by omega)
  have hm : min n.toNat IntKind.i64.bits = n.toNat := by simp [IntKind.bits]; omega
  rw [hm]
  have : (1 : Int) * 2 ^ n.toNat = p2 n := by unfold p2; simp
  have hr : 0 ≤ p2 n ∧ p2 n ≤ 4611686018427387904 := by
    unfold p2
    generalize 2 ^ n.toNat = m at hp
    omega
  rw [this, w64 (by omega) (by omega)]
theorem shm_eq {R : Type} {n : Int} (h0 : 0 ≤ n) (h1 : n ≤ 62) (K : Int → Option R) : hbin .shl .i64 (-1) n K = K (-(p2 n)) := by
  simp only [hbin]
  rw [if_neg (by omega)]
  have hp : 2 ^ n.toNat ≤ 2 ^ 62 := Nat.pow_le_pow_right (by omega) (by omega)
  have hm : min n.toNat IntKind.i64.bits = n.toNat := by simp [IntKind.bits]; omega
  rw [hm]
  have : (-1 : Int) * 2 ^ n.toNat = -(p2 n) := by unfold p2; simp
  have hr : 0 ≤ p2 n ∧ p2 n ≤ 4611686018427387904 := by
    unfold p2
    generalize 2 ^ n.toNat = m at hp
    omega
  rw [this, w64 (by omega) (by omega)]
theorem p2_succ {n : Int} (h : 1 ≤ n) : p2 n = 2 * p2 (n - 1) := by
  unfold p2
  obtain ⟨N, rfl⟩ : ∃ N : Nat, n = (N : Int) + 1 := ⟨(n - 1).toNat, by omega⟩
  rw [show ((N : Int) + 1).toNat = N + 1 from by omega, show ((N : Int) + 1 - 1).toNat = N from by omega, Nat.pow_succ]
  omega
theorem p2_pos (n : Int) : 1 ≤ p2 n := by
  unfold p2
  have := Nat.pow_pos (n := n.toNat) (show 0 < 2 by omega)
  omega
theorem p2_le {n : Int} (h : n ≤ 16) : p2 n ≤ 65536 := by
  unfold p2
  have : 2 ^ n.toNat ≤ 2 ^ 16 := Nat.pow_le_pow_right (by omega) (by omega)
  omega
def kn (t : Int) : Bool := t == 0 || t == 1 || t == 2
theorem known_eq {R : Type} (t : Int) (K : Bool → Option R) : color_known t K = K (kn t) := by
  unfold color_known color_known_b kn
  cases t == 0 <;> cases t == 1 <;> rfl
theorem knownR_eq {R : Type} (t : Int) (K : Bool → Option R) : R07_ValidKind t K = K (kn t) := by
  unfold R07_ValidKind R07_ValidKind_b kn
  cases t == 0 <;> cases t == 1 <;> rfl
def dp (d : Int) : Bool := decide (d ≥ 1) && decide (d ≤ 16)
theorem deep_eq {R : Type} (d : Int) (K : Bool → Option R) : color_deep d K = K (dp d) := by
  unfold color_deep color_deep_b dp
  cases decide (d ≥ 1) <;> rfl
/-- The bound. -/
def bnd (t d : Int) : Int := bif kn t && dp d then (bif t == 0 then p2 (d - 1) else p2 d) else 0
theorem dp_of {d : Int} (h : dp d = true) : 1 ≤ d ∧ d ≤ 16 := by
  unfold dp at h
  simp only [Bool.and_eq_true, decide_eq_true_eq] at h
  omega
theorem Bound_eq {R : Type} (k : Nat) (t d : Int) (K : Int → Option R) : color_Bound k t d K = K (bnd t d) := by
  unfold color_Bound color_Bound_b color_Bound_p0 color_Bound_p0_b bnd
  simp only [known_eq, deep_eq]
  cases kn t with
  | false => rfl
  | true =>
    cases hd : dp d with
    | false => rfl
    | true =>
      have := dp_of hd
      simp only [Bool.not_true, cond_false, Bool.and_self, cond_true]
      rw [w64 (n := d - 1) (by omega) (by omega)]
      cases t == 0 with
      | true => simp only [cond_true]; exact shl_eq (by omega) (by omega) K
      | false => simp only [cond_false]; exact shl_eq (by omega) (by omega) K
end Go.Proofs.Ytoeoolnkndkefaa.Sh
