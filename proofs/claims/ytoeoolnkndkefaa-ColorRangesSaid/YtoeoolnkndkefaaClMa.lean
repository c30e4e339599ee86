/- ClH, in one text. -/
import Derived.Test.YtoeoolnkndkefaaSh5
import Derived.Test.YtoeoolnkndkefaaSh10
import Derived.Test.YtoeoolnkndkefaaFwX
import Derived.Test.YtoeoolnkndkefaaFwO
import Derived.IntWalk
import Derived.Test.YtoeoolnkndkefaaSh7
import Derived.Test.YtoeoolnkndkefaaSh12
import Derived.Test.YtoeoolnkndkefaaSh2
import Derived.Test.YtoeoolnkndkefaaSh3
import Derived.Test.YtoeoolnkndkefaaSh6
import Derived.Test.YtoeoolnkndkefaaSh16
/- Color: the transforms of a pixel. -/
set_option linter.unusedVariables false
set_option linter.unusedSimpArgs false
namespace Go.Proofs.Ytoeoolnkndkefaa.Sh
open Go.Proofs.Ytoeoolnkndkefaa.FW
theorem wf_64 {a : Int} (h : (Lit.int .i64 a).wf = true) : -9223372036854775808 ≤ a ∧ a ≤ 9223372036854775807 := by
  simp only [Lit.wf, IntKind.min, IntKind.max, IntKind.signed, IntKind.bits, Bool.and_eq_true, decide_eq_true_eq, if_true] at h
  exact ⟨by omega, by omega⟩
theorem w64 {n : Int} (h0 : -9223372036854775808 ≤ n) (h1 : n ≤ 9223372036854775807) : IntKind.wrap .i64 n = n := IntWalk.i64_in n ⟨h0, h1⟩
abbrev W (n : Int) : Int := IntKind.wrap .i64 n
def fwd (t a b c : Int) : Int × Int × Int :=
  bif t == 1 then (Int.fdiv (W (W (a + W (2 * b)) + c)) 4, W (c - b), W (a - b))
  else bif t == 2 then (W (W (c + Int.fdiv (W (a - c)) 2) + Int.fdiv (W (b - W (c + Int.fdiv (W (a - c)) 2))) 2), W (a - c), W (b - W (c + Int.fdiv (W (a - c)) 2)))
  else (a, b, c)
def inv (t a b c : Int) : Int × Int × Int :=
  bif t == 1 then (W (c + W (a - Int.fdiv (W (b + c)) 4)), W (a - Int.fdiv (W (b + c)) 4), W (b + W (a - Int.fdiv (W (b + c)) 4)))
  else bif t == 2 then (W (W (W (a - Int.fdiv c 2) - Int.fdiv b 2) + b), W (c + W (a - Int.fdiv c 2)), W (W (a - Int.fdiv c 2) - Int.fdiv b 2))
  else (a, b, c)
theorem forward_eq (t a b c : Int) (H : Heap) : ∃ J, ∀ (R : Type) (K : Int → Int → Int → Heap → Option R), color_forward t a b c H K = K (fwd t a b c).1 (fwd t a b c).2.1 (fwd t a b c).2.2 (H ++ J) := by
  unfold fwd
  cases h1 : t == 1 with
  | true =>
    refine ⟨?J1, fun R K => ?M1⟩
    case M1 =>
      unfold color_forward color_forward_b color_quarter color_quarter_b color_half color_half_b
      simp (disch := (first | assumption | omega | exact Nat.le_of_ble_eq_true rfl | (simp only [List.length_append, List.length_cons, List.length_nil]; omega))) only [h1, hal_x, hmk_x, hcell_new, hcell_old, hidx_x, hfad_x, hnil_x, ldI_x, ldB_x, ldP_x, ldL_x, pad_some, get0, gets, ik64, ik8, ik32, iku64, cond_true, cond_false, hst_new, hst_old, splice_cc, splice_nn, one_n, one_i, one_b, one_p, one_s, one_t, Int.toNat_zero, Int.toNat_one, tn2, tn3, Nat.mul_one, Nat.zero_add, Nat.zero_mul, Nat.add_zero]
      simp only [List.append_assoc]
      rfl
  | false =>
    cases h2 : t == 2 with
    | true =>
      refine ⟨?J2, fun R K => ?M2⟩
      case M2 =>
        unfold color_forward color_forward_b color_quarter color_quarter_b color_half color_half_b
        simp (disch := (first | assumption | omega | exact Nat.le_of_ble_eq_true rfl | (simp only [List.length_append, List.length_cons, List.length_nil]; omega))) only [h1, h2, hal_x, hmk_x, hcell_new, hcell_old, hidx_x, hfad_x, hnil_x, ldI_x, ldB_x, ldP_x, ldL_x, pad_some, get0, gets, ik64, ik8, ik32, iku64, cond_true, cond_false, hst_new, hst_old, splice_cc, splice_nn, one_n, one_i, one_b, one_p, one_s, one_t, Int.toNat_zero, Int.toNat_one, tn2, tn3, Nat.mul_one, Nat.zero_add, Nat.zero_mul, Nat.add_zero]
        simp only [List.append_assoc]
        rfl
    | false =>
      refine ⟨?J3, fun R K => ?M3⟩
      case M3 =>
        unfold color_forward color_forward_b color_quarter color_quarter_b color_half color_half_b
        simp (disch := (first | assumption | omega | exact Nat.le_of_ble_eq_true rfl | (simp only [List.length_append, List.length_cons, List.length_nil]; omega))) only [h1, h2, hal_x, hmk_x, hcell_new, hcell_old, hidx_x, hfad_x, hnil_x, ldI_x, ldB_x, ldP_x, ldL_x, pad_some, get0, gets, ik64, ik8, ik32, iku64, cond_true, cond_false, hst_new, hst_old, splice_cc, splice_nn, one_n, one_i, one_b, one_p, one_s, one_t, Int.toNat_zero, Int.toNat_one, tn2, tn3, Nat.mul_one, Nat.zero_add, Nat.zero_mul, Nat.add_zero]
        simp only [List.append_assoc]
        rfl
theorem inverse_eq (t a b c : Int) (H : Heap) : ∃ J, ∀ (R : Type) (K : Int → Int → Int → Heap → Option R), color_inverse t a b c H K = K (inv t a b c).1 (inv t a b c).2.1 (inv t a b c).2.2 (H ++ J) := by
  unfold inv
  cases h1 : t == 1 with
  | true =>
    refine ⟨?J4, fun R K => ?M4⟩
    case M4 =>
      unfold color_inverse color_inverse_b color_quarter color_quarter_b color_half color_half_b
      simp (disch := (first | assumption | omega | exact Nat.le_of_ble_eq_true rfl | (simp only [List.length_append, List.length_cons, List.length_nil]; omega))) only [h1, hal_x, hmk_x, hcell_new, hcell_old, hidx_x, hfad_x, hnil_x, ldI_x, ldB_x, ldP_x, ldL_x, pad_some, get0, gets, ik64, ik8, ik32, iku64, cond_true, cond_false, hst_new, hst_old, splice_cc, splice_nn, one_n, one_i, one_b, one_p, one_s, one_t, Int.toNat_zero, Int.toNat_one, tn2, tn3, Nat.mul_one, Nat.zero_add, Nat.zero_mul, Nat.add_zero]
      simp only [List.append_assoc]
      rfl
  | false =>
    cases h2 : t == 2 with
    | true =>
      refine ⟨?J5, fun R K => ?M5⟩
      case M5 =>
        unfold color_inverse color_inverse_b color_quarter color_quarter_b color_half color_half_b
        simp (disch := (first | assumption | omega | exact Nat.le_of_ble_eq_true rfl | (simp only [List.length_append, List.length_cons, List.length_nil]; omega))) only [h1, h2, hal_x, hmk_x, hcell_new, hcell_old, hidx_x, hfad_x, hnil_x, ldI_x, ldB_x, ldP_x, ldL_x, pad_some, get0, gets, ik64, ik8, ik32, iku64, cond_true, cond_false, hst_new, hst_old, splice_cc, splice_nn, one_n, one_i, one_b, one_p, one_s, one_t, Int.toNat_zero, Int.toNat_one, tn2, tn3, Nat.mul_one, Nat.zero_add, Nat.zero_mul, Nat.add_zero]
        simp only [List.append_assoc]
        rfl
    | false =>
      refine ⟨?J6, fun R K => ?M6⟩
      case M6 =>
        unfold color_inverse color_inverse_b color_quarter color_quarter_b color_half color_half_b
        simp (disch := (first | assumption | omega | exact Nat.le_of_ble_eq_true rfl | (simp only [List.length_append, List.length_cons, List.length_nil]; omega))) only [h1, h2, hal_x, hmk_x, hcell_new, hcell_old, hidx_x, hfad_x, hnil_x, ldI_x, ldB_x, ldP_x, ldL_x, pad_some, get0, gets, ik64, ik8, ik32, iku64, cond_true, cond_false, hst_new, hst_old, splice_cc, splice_nn, one_n, one_i, one_b, one_p, one_s, one_t, Int.toNat_zero, Int.toNat_one, tn2, tn3, Nat.mul_one, Nat.zero_add, Nat.zero_mul, Nat.add_zero]
        simp only [List.append_assoc]
        rfl
theorem Forward_eq (t a b c : Int) (H : Heap) : ∃ J, ∀ (R : Type) (K : Int → Int → Int → Heap → Option R), color_Forward t a b c H K = K (fwd t a b c).1 (fwd t a b c).2.1 (fwd t a b c).2.2 (H ++ J) := by
  obtain ⟨J, e⟩ := forward_eq t a b c H
  refine ⟨?J7, fun R K => ?M7⟩
  case M7 =>
    unfold color_Forward color_Forward_b
    simp (disch := (first | assumption | omega | exact Nat.le_of_ble_eq_true rfl | (simp only [List.length_append, List.length_cons, List.length_nil]; omega))) only [e, hal_x, hmk_x, hcell_new, hcell_old, hidx_x, hfad_x, hnil_x, ldI_x, ldB_x, ldP_x, ldL_x, pad_some, get0, gets, ik64, ik8, ik32, iku64, cond_true, cond_false, hst_new, hst_old, splice_cc, splice_nn, one_n, one_i, one_b, one_p, one_s, one_t, Int.toNat_zero, Int.toNat_one, tn2, tn3, Nat.mul_one, Nat.zero_add, Nat.zero_mul, Nat.add_zero]
    simp only [List.append_assoc]
    rfl
theorem Inverse_eq (t a b c : Int) (H : Heap) : ∃ J, ∀ (R : Type) (K : Int → Int → Int → Heap → Option R), color_Inverse t a b c H K = K (inv t a b c).1 (inv t a b c).2.1 (inv t a b c).2.2 (H ++ J) := by
  obtain ⟨J, e⟩ := inverse_eq t a b c H
  refine ⟨?J8, fun R K => ?M8⟩
  case M8 =>
    unfold color_Inverse color_Inverse_b
    simp (disch := (first | assumption | omega | exact Nat.le_of_ble_eq_true rfl | (simp only [List.length_append, List.length_cons, List.length_nil]; omega))) only [e, hal_x, hmk_x, hcell_new, hcell_old, hidx_x, hfad_x, hnil_x, ldI_x, ldB_x, ldP_x, ldL_x, pad_some, get0, gets, ik64, ik8, ik32, iku64, cond_true, cond_false, hst_new, hst_old, splice_cc, splice_nn, one_n, one_i, one_b, one_p, one_s, one_t, Int.toNat_zero, Int.toNat_one, tn2, tn3, Nat.mul_one, Nat.zero_add, Nat.zero_mul, Nat.add_zero]
    simp only [List.append_assoc]
    rfl
end Go.Proofs.Ytoeoolnkndkefaa.Sh
/- Color: powers of two. -/
set_option linter.unusedVariables false
set_option linter.unusedSimpArgs false
namespace Go.Proofs.Ytoeoolnkndkefaa.Sh
open Go.Proofs.Ytoeoolnkndkefaa.FW
theorem power_loop (k : Nat) : ∀ (m n i : Nat), m < n → ∀ (N : Nat), N = i + m → N ≤ 62 → ∀ (R : Type) (KE : Int → Option R), R07_power_l0 k KE n (N : Int) ((2 ^ i : Nat) : Int) (i : Int) = KE ((2 ^ N : Nat) : Int) := by
  intro m
  induction m with
  | zero =>
    intro n i hn N hN hl R KE
    obtain ⟨n, rfl⟩ : ∃ n', n = n' + 1 := ⟨n - 1, by omega⟩
    have : N = i := by omega
    subst this
    have ed : decide ((N : Int) < (N : Int)) = false := decide_eq_false (by omega)
    simp only [R07_power_l0, R07_power_l0_b, ed, cond_false]
  | succ m ih =>
    intro n i hn N hN hl R KE
    obtain ⟨n, rfl⟩ : ∃ n', n = n' + 1 := ⟨n - 1, by omega⟩
    have ed : decide ((i : Int) < (N : Int)) = true := decide_eq_true (by omega)
    have hp : 2 ^ (i + 1) ≤ 2 ^ 62 := Nat.pow_le_pow_right (by omega) (by omega)
    have hp2 : 2 ^ (i + 1) = 2 ^ i * 2 := Nat.pow_succ 2 i
    have e1 : IntKind.wrap .i64 (2 * ((2 ^ i : Nat) : Int)) = ((2 ^ (i + 1) : Nat) : Int) := by
      rw [w64 (by omega) (by omega), hp2]; omega
    have e2 : IntKind.wrap .i64 ((i : Int) + 1) = ((i + 1 : Nat) : Int) := by rw [w64 (by omega) (by omega)]; rfl
    simp only [R07_power_l0, R07_power_l0_b, ed, cond_true, e1, e2]
    exact ih n (i + 1) (by omega) N (by omega) hl R KE
/-- 2^n. -/
def p2 (n : Int) : Int := ((2 ^ n.toNat : Nat) : Int)
theorem power_eq {R : Type} (k : Nat) (hk : 70 < k) {n : Int} (h0 : 0 ≤ n) (h1 : n ≤ 62) (K : Int → Option R) : R07_power k n K = K (p2 n) := by
  unfold R07_power R07_power_b
  obtain ⟨N, rfl⟩ : ∃ N : Nat, n = N := ⟨n.toNat, by omega⟩
  have := power_loop k N k 0 (by omega) N (by omega) (by omega) R K
  simp only [Nat.pow_zero, Int.natCast_zero] at this
  exact this
theorem shl_eq {R : Type} {n : Int} (h0 : 0 ≤ n) (h1 : n ≤ 62) (K : Int → Option R) : hbin .shl .i64 1 n K = K (p2 n) := by
  simp only [hbin]
  rw [if_neg (by omega)]
  have hp : 2 ^ n.toNat ≤ 2 ^ 62 := Nat.pow_le_pow_right (by omega) (by omega)
  have hm : min n.toNat IntKind.i64.bits = n.toNat := by simp [IntKind.bits]; omega
  rw [hm]
  have : (1 : Int) * 2 ^ n.toNat = p2 n := by unfold p2; simp
  have hr : 0 ≤ p2 n ∧ p2 n ≤ 4611686018427387904 := by
    unfold p2
    generalize 2 ^ n.toNat = m at hp
    omega
  rw [this, w64 (by omega) (by omega)]
theorem shm_eq {R : Type} {n : Int} (h0 : 0 ≤ n) (h1 : n ≤ 62) (K : Int → Option R) : hbin .shl .i64 (-1) n K = K (-(p2 n)) := by
  simp only [hbin]
  rw [if_neg (by omega)]
  have hp : 2 ^ n.toNat ≤ 2 ^ 62 := Nat.pow_le_pow_right (by omega) (by omega)
  have hm : min n.toNat IntKind.i64.bits = n.toNat := by simp [IntKind.bits]; omega
  rw [hm]
  have : (-1 : Int) * 2 ^ n.toNat = -(p2 n) := by unfold p2; simp
  have hr : 0 ≤ p2 n ∧ p2 n ≤ 4611686018427387904 := by
    unfold p2
    generalize 2 ^ n.toNat = m at hp
    omega
  rw [this, w64 (by omega) (by omega)]
theorem p2_succ {n : Int} (h : 1 ≤ n) : p2 n = 2 * p2 (n - 1) := by
  unfold p2
  obtain ⟨N, rfl⟩ : ∃ N : Nat, n = (N : Int) + 1 := ⟨(n - 1).toNat, by omega⟩
  rw [show ((N : Int) + 1).toNat = N + 1 from by omega, show ((N : Int) + 1 - 1).toNat = N from by omega, Nat.pow_succ]
  omega
theorem p2_pos (n : Int) : 1 ≤ p2 n := by
  unfold p2
  have := Nat.pow_pos (n := n.toNat) (show 0 < 2 by omega)
  omega
theorem p2_le {n : Int} (h : n ≤ 16) : p2 n ≤ 65536 := by
  unfold p2
  have : 2 ^ n.toNat ≤ 2 ^ 16 := Nat.pow_le_pow_right (by omega) (by omega)
  omega
def kn (t : Int) : Bool := t == 0 || t == 1 || t == 2
theorem known_eq {R : Type} (t : Int) (K : Bool → Option R) : color_known t K = K (kn t) := by
  unfold color_known color_known_b kn
  cases t == 0 <;> cases t == 1 <;> rfl
theorem knownR_eq {R : Type} (t : Int) (K : Bool → Option R) : R07_ValidKind t K = K (kn t) := by
  unfold R07_ValidKind R07_ValidKind_b kn
  cases t == 0 <;> cases t == 1 <;> rfl
def dp (d : Int) : Bool := decide (d ≥ 1) && decide (d ≤ 16)
theorem deep_eq {R : Type} (d : Int) (K : Bool → Option R) : color_deep d K = K (dp d) := by
  unfold color_deep color_deep_b dp
  cases decide (d ≥ 1) <;> rfl
/-- The bound. -/
def bnd (t d : Int) : Int := bif kn t && dp d then (bif t == 0 then p2 (d - 1) else p2 d) else 0
theorem dp_of {d : Int} (h : dp d = true) : 1 ≤ d ∧ d ≤ 16 := by
  unfold dp at h
  simp only [Bool.and_eq_true, decide_eq_true_eq] at h
  omega
theorem Bound_eq {R : Type} (k : Nat) (t d : Int) (K : Int → Option R) : color_Bound k t d K = K (bnd t d) := by
  unfold color_Bound color_Bound_b color_Bound_p0 color_Bound_p0_b bnd
  simp only [known_eq, deep_eq]
  cases kn t with
  | false => rfl
  | true =>
    cases hd : dp d with
    | false => rfl
    | true =>
      have := dp_of hd
      simp only [Bool.not_true, cond_false, Bool.and_self, cond_true]
      rw [w64 (n := d - 1) (by omega) (by omega)]
      cases t == 0 with
      | true => simp only [cond_true]; exact shl_eq (by omega) (by omega) K
      | false => simp only [cond_false]; exact shl_eq (by omega) (by omega) K
end Go.Proofs.Ytoeoolnkndkefaa.Sh
/- Color: planes that are valid, ranges and offsets. -/
set_option linter.unusedVariables false
set_option linter.unusedSimpArgs false
namespace Go.Proofs.Ytoeoolnkndkefaa.Sh
open Go.Proofs.Ytoeoolnkndkefaa.FW
def rv (x0 y0 x1 y1 : Int) : Bool := decide (0 ≤ x0) && (decide (x0 ≤ x1) && (decide (x1 ≤ 4096) && (decide (0 ≤ y0) && (decide (y0 ≤ y1) && decide (y1 ≤ 4096)))))
theorem rv_of {x0 y0 x1 y1 : Int} (h : rv x0 y0 x1 y1 = true) : 0 ≤ x0 ∧ x0 ≤ x1 ∧ x1 ≤ 4096 ∧ 0 ≤ y0 ∧ y0 ≤ y1 ∧ y1 ≤ 4096 := by
  unfold rv at h
  simp only [Bool.and_eq_true, decide_eq_true_eq] at h
  omega
theorem rv_step (b1 b2 b3 b4 b5 b6 : Bool) {R : Type} (K : Bool → Option R) : (bif b1 then (bif b2 then (bif b3 then (bif b4 then (bif b5 then K b6 else K false) else K false) else K false) else K false) else K false) = K (b1 && (b2 && (b3 && (b4 && (b5 && b6))))) := by
  cases b1 <;> cases b2 <;> cases b3 <;> cases b4 <;> cases b5 <;> rfl
theorem rectValid_eq (x0 y0 x1 y1 : Int) (H : Heap) : ∃ J, ∀ (R : Type) (K : Bool → Heap → Option R), rect_Valid x0 y0 x1 y1 H K = K (rv x0 y0 x1 y1) (H ++ J) := by
  refine ⟨?J9, fun R K => ?M9⟩
  case M9 =>
    unfold rect_Valid rect_Valid_b rv
    simp (disch := (first | assumption | omega | exact Nat.le_of_ble_eq_true rfl | (simp only [List.length_append, List.length_cons, List.length_nil]; omega))) only [hal_x, hmk_x, hcell_new, hcell_old, hidx_x, hfad_x, hnil_x, ldI_x, ldB_x, ldP_x, ldL_x, pad_some, get0, gets, ik64, ik8, ik32, iku64, cond_true, cond_false, hst_new, hst_old, splice_cc, splice_nn, one_n, one_i, one_b, one_p, one_s, one_t, Int.toNat_zero, Int.toNat_one, tn2, tn3, Nat.mul_one, Nat.zero_add, Nat.zero_mul, Nat.add_zero]
    exact rv_step _ _ _ _ _ _ (fun t => K t _)
theorem rectValidR_eq (x0 y0 x1 y1 : Int) (H : Heap) : ∃ J, ∀ (R : Type) (K : Bool → Heap → Option R), R01_Valid x0 y0 x1 y1 H K = K (rv x0 y0 x1 y1) (H ++ J) := by
  refine ⟨?J10, fun R K => ?M10⟩
  case M10 =>
    unfold R01_Valid R01_Valid_b rv
    simp (disch := (first | assumption | omega | exact Nat.le_of_ble_eq_true rfl | (simp only [List.length_append, List.length_cons, List.length_nil]; omega))) only [hal_x, hmk_x, hcell_new, hcell_old, hidx_x, hfad_x, hnil_x, ldI_x, ldB_x, ldP_x, ldL_x, pad_some, get0, gets, ik64, ik8, ik32, iku64, cond_true, cond_false, hst_new, hst_old, splice_cc, splice_nn, one_n, one_i, one_b, one_p, one_s, one_t, Int.toNat_zero, Int.toNat_one, tn2, tn3, Nat.mul_one, Nat.zero_add, Nat.zero_mul, Nat.add_zero]
    exact rv_step _ _ _ _ _ _ (fun t => K t _)
def ra (x0 y0 x1 y1 : Int) : Int := bif rv x0 y0 x1 y1 then W (W (x1 - x0) * W (y1 - y0)) else 0
theorem rectArea_eq (x0 y0 x1 y1 : Int) (H : Heap) : ∃ J, ∀ (R : Type) (K : Int → Heap → Option R), rect_Area x0 y0 x1 y1 H K = K (ra x0 y0 x1 y1) (H ++ J) := by
  obtain ⟨J1, e1⟩ := rectValid_eq x0 y0 x1 y1 (H ++ [some ⟨[.int .i64 x0, .int .i64 y0, .int .i64 x1, .int .i64 y1], false, 0⟩])
  unfold ra
  cases h : rv x0 y0 x1 y1 with
  | true =>
    rw [h] at e1
    refine ⟨?J11, fun R K => ?M11⟩
    case M11 =>
      unfold rect_Area rect_Area_b
      simp (disch := (first | assumption | omega | exact Nat.le_of_ble_eq_true rfl | (simp only [List.length_append, List.length_cons, List.length_nil]; omega))) only [e1, Bool.not_true, hal_x, hmk_x, hcell_new, hcell_old, hidx_x, hfad_x, hnil_x, ldI_x, ldB_x, ldP_x, ldL_x, pad_some, get0, gets, ik64, ik8, ik32, iku64, cond_true, cond_false, hst_new, hst_old, splice_cc, splice_nn, one_n, one_i, one_b, one_p, one_s, one_t, Int.toNat_zero, Int.toNat_one, tn2, tn3, Nat.mul_one, Nat.zero_add, Nat.zero_mul, Nat.add_zero]
      simp only [List.append_assoc]
      rfl
  | false =>
    rw [h] at e1
    refine ⟨?J12, fun R K => ?M12⟩
    case M12 =>
      unfold rect_Area rect_Area_b
      simp (disch := (first | assumption | omega | exact Nat.le_of_ble_eq_true rfl | (simp only [List.length_append, List.length_cons, List.length_nil]; omega))) only [e1, Bool.not_false, hal_x, hmk_x, hcell_new, hcell_old, hidx_x, hfad_x, hnil_x, ldI_x, ldB_x, ldP_x, ldL_x, pad_some, get0, gets, ik64, ik8, ik32, iku64, cond_true, cond_false, hst_new, hst_old, splice_cc, splice_nn, one_n, one_i, one_b, one_p, one_s, one_t, Int.toNat_zero, Int.toNat_one, tn2, tn3, Nat.mul_one, Nat.zero_add, Nat.zero_mul, Nat.add_zero]
      simp only [List.append_assoc]
      rfl
theorem rectAreaR_eq (x0 y0 x1 y1 : Int) (H : Heap) : ∃ J, ∀ (R : Type) (K : Int → Heap → Option R), R01_Area x0 y0 x1 y1 H K = K (ra x0 y0 x1 y1) (H ++ J) := by
  obtain ⟨J1, e1⟩ := rectValidR_eq x0 y0 x1 y1 (H ++ [some ⟨[.int .i64 x0, .int .i64 y0, .int .i64 x1, .int .i64 y1], false, 0⟩])
  unfold ra
  cases h : rv x0 y0 x1 y1 with
  | true =>
    rw [h] at e1
    refine ⟨?J13, fun R K => ?M13⟩
    case M13 =>
      unfold R01_Area R01_Area_b
      simp (disch := (first | assumption | omega | exact Nat.le_of_ble_eq_true rfl | (simp only [List.length_append, List.length_cons, List.length_nil]; omega))) only [e1, Bool.not_true, hal_x, hmk_x, hcell_new, hcell_old, hidx_x, hfad_x, hnil_x, ldI_x, ldB_x, ldP_x, ldL_x, pad_some, get0, gets, ik64, ik8, ik32, iku64, cond_true, cond_false, hst_new, hst_old, splice_cc, splice_nn, one_n, one_i, one_b, one_p, one_s, one_t, Int.toNat_zero, Int.toNat_one, tn2, tn3, Nat.mul_one, Nat.zero_add, Nat.zero_mul, Nat.add_zero]
      simp only [List.append_assoc]
      rfl
  | false =>
    rw [h] at e1
    refine ⟨?J14, fun R K => ?M14⟩
    case M14 =>
      unfold R01_Area R01_Area_b
      simp (disch := (first | assumption | omega | exact Nat.le_of_ble_eq_true rfl | (simp only [List.length_append, List.length_cons, List.length_nil]; omega))) only [e1, Bool.not_false, hal_x, hmk_x, hcell_new, hcell_old, hidx_x, hfad_x, hnil_x, ldI_x, ldB_x, ldP_x, ldL_x, pad_some, get0, gets, ik64, ik8, ik32, iku64, cond_true, cond_false, hst_new, hst_old, splice_cc, splice_nn, one_n, one_i, one_b, one_p, one_s, one_t, Int.toNat_zero, Int.toNat_one, tn2, tn3, Nat.mul_one, Nat.zero_add, Nat.zero_mul, Nat.add_zero]
      simp only [List.append_assoc]
      rfl
/-- A valid plane. -/
def pv (x0 y0 x1 y1 : Int) (l : Nat) : Bool := rv x0 y0 x1 y1 && (decide (ra x0 y0 x1 y1 ≤ 1048576) && (((l : Nat) : Int) == ra x0 y0 x1 y1))
theorem planeValid_eq (x0 y0 x1 y1 : Int) (q : Option Addr) (l c : Nat) (H : Heap) : ∃ J, ∀ (R : Type) (K : Bool → Heap → Option R), plane_Valid x0 y0 x1 y1 q l c H K = K (pv x0 y0 x1 y1 l) (H ++ J) := by
  obtain ⟨J1, e1⟩ := rectValid_eq x0 y0 x1 y1 (H ++ [some ⟨[.int .i64 x0, .int .i64 y0, .int .i64 x1, .int .i64 y1, .slice q l c], false, 0⟩])
  obtain ⟨J2, e2⟩ := rectArea_eq x0 y0 x1 y1 (H ++ [some ⟨[.int .i64 x0, .int .i64 y0, .int .i64 x1, .int .i64 y1, .slice q l c], false, 0⟩] ++ J1)
  obtain ⟨J3, e3⟩ := rectArea_eq x0 y0 x1 y1 (roH (H ++ [some ⟨[.int .i64 x0, .int .i64 y0, .int .i64 x1, .int .i64 y1, .slice q l c], false, 0⟩] ++ J1 ++ J2))
  unfold pv
  cases h : rv x0 y0 x1 y1 with
  | true =>
    rw [h] at e1
    cases h2 : decide (ra x0 y0 x1 y1 ≤ 1048576) with
    | true =>
      refine ⟨?J15, fun R K => ?M15⟩
      case M15 =>
        unfold plane_Valid plane_Valid_b
        simp (disch := (first | assumption | omega | exact Nat.le_of_ble_eq_true rfl | (simp only [List.length_append, List.length_cons, List.length_nil]; omega))) only [e1, e2, e3, h2, Bool.true_and, hal_x, hmk_x, hcell_new, hcell_old, hidx_x, hfad_x, hnil_x, ldI_x, ldB_x, ldP_x, ldL_x, pad_some, get0, gets, ik64, ik8, ik32, iku64, cond_true, cond_false, hst_new, hst_old, splice_cc, splice_nn, one_n, one_i, one_b, one_p, one_s, one_t, Int.toNat_zero, Int.toNat_one, tn2, tn3, Nat.mul_one, Nat.zero_add, Nat.zero_mul, Nat.add_zero]
        simp only [List.append_assoc]
        rfl
    | false =>
      refine ⟨?J16, fun R K => ?M16⟩
      case M16 =>
        unfold plane_Valid plane_Valid_b
        simp (disch := (first | assumption | omega | exact Nat.le_of_ble_eq_true rfl | (simp only [List.length_append, List.length_cons, List.length_nil]; omega))) only [e1, e2, e3, h2, Bool.true_and, Bool.false_and, hal_x, hmk_x, hcell_new, hcell_old, hidx_x, hfad_x, hnil_x, ldI_x, ldB_x, ldP_x, ldL_x, pad_some, get0, gets, ik64, ik8, ik32, iku64, cond_true, cond_false, hst_new, hst_old, splice_cc, splice_nn, one_n, one_i, one_b, one_p, one_s, one_t, Int.toNat_zero, Int.toNat_one, tn2, tn3, Nat.mul_one, Nat.zero_add, Nat.zero_mul, Nat.add_zero]
        simp only [List.append_assoc]
        rfl
  | false =>
    rw [h] at e1
    refine ⟨?J17, fun R K => ?M17⟩
    case M17 =>
      unfold plane_Valid plane_Valid_b
      simp (disch := (first | assumption | omega | exact Nat.le_of_ble_eq_true rfl | (simp only [List.length_append, List.length_cons, List.length_nil]; omega))) only [e1, Bool.false_and, hal_x, hmk_x, hcell_new, hcell_old, hidx_x, hfad_x, hnil_x, ldI_x, ldB_x, ldP_x, ldL_x, pad_some, get0, gets, ik64, ik8, ik32, iku64, cond_true, cond_false, hst_new, hst_old, splice_cc, splice_nn, one_n, one_i, one_b, one_p, one_s, one_t, Int.toNat_zero, Int.toNat_one, tn2, tn3, Nat.mul_one, Nat.zero_add, Nat.zero_mul, Nat.add_zero]
      simp only [List.append_assoc]
      rfl
theorem planeValidR_eq (x0 y0 x1 y1 : Int) (q : Option Addr) (l c : Nat) (H : Heap) : ∃ J, ∀ (R : Type) (K : Bool → Heap → Option R), R02_Valid x0 y0 x1 y1 q l c H K = K (pv x0 y0 x1 y1 l) (H ++ J) := by
  obtain ⟨J1, e1⟩ := rectAreaR_eq x0 y0 x1 y1 (H ++ [some ⟨[.int .i64 x0, .int .i64 y0, .int .i64 x1, .int .i64 y1, .slice q l c], false, 0⟩])
  obtain ⟨J2, e2⟩ := rectValidR_eq x0 y0 x1 y1 (H ++ [some ⟨[.int .i64 x0, .int .i64 y0, .int .i64 x1, .int .i64 y1, .slice q l c], false, 0⟩] ++ J1)
  unfold pv
  cases h : rv x0 y0 x1 y1 with
  | true =>
    rw [h] at e2
    cases h2 : decide (ra x0 y0 x1 y1 ≤ 1048576) with
    | true =>
      refine ⟨?J18, fun R K => ?M18⟩
      case M18 =>
        unfold R02_Valid R02_Valid_b
        simp (disch := (first | assumption | omega | exact Nat.le_of_ble_eq_true rfl | (simp only [List.length_append, List.length_cons, List.length_nil]; omega))) only [e1, e2, h2, Bool.true_and, hal_x, hmk_x, hcell_new, hcell_old, hidx_x, hfad_x, hnil_x, ldI_x, ldB_x, ldP_x, ldL_x, pad_some, get0, gets, ik64, ik8, ik32, iku64, cond_true, cond_false, hst_new, hst_old, splice_cc, splice_nn, one_n, one_i, one_b, one_p, one_s, one_t, Int.toNat_zero, Int.toNat_one, tn2, tn3, Nat.mul_one, Nat.zero_add, Nat.zero_mul, Nat.add_zero]
        simp only [List.append_assoc]
        rfl
    | false =>
      refine ⟨?J19, fun R K => ?M19⟩
      case M19 =>
        unfold R02_Valid R02_Valid_b
        simp (disch := (first | assumption | omega | exact Nat.le_of_ble_eq_true rfl | (simp only [List.length_append, List.length_cons, List.length_nil]; omega))) only [e1, e2, h2, Bool.true_and, Bool.false_and, hal_x, hmk_x, hcell_new, hcell_old, hidx_x, hfad_x, hnil_x, ldI_x, ldB_x, ldP_x, ldL_x, pad_some, get0, gets, ik64, ik8, ik32, iku64, cond_true, cond_false, hst_new, hst_old, splice_cc, splice_nn, one_n, one_i, one_b, one_p, one_s, one_t, Int.toNat_zero, Int.toNat_one, tn2, tn3, Nat.mul_one, Nat.zero_add, Nat.zero_mul, Nat.add_zero]
        simp only [List.append_assoc]
        rfl
  | false =>
    rw [h] at e2
    refine ⟨?J20, fun R K => ?M20⟩
    case M20 =>
      unfold R02_Valid R02_Valid_b
      simp (disch := (first | assumption | omega | exact Nat.le_of_ble_eq_true rfl | (simp only [List.length_append, List.length_cons, List.length_nil]; omega))) only [e1, e2, Bool.false_and, hal_x, hmk_x, hcell_new, hcell_old, hidx_x, hfad_x, hnil_x, ldI_x, ldB_x, ldP_x, ldL_x, pad_some, get0, gets, ik64, ik8, ik32, iku64, cond_true, cond_false, hst_new, hst_old, splice_cc, splice_nn, one_n, one_i, one_b, one_p, one_s, one_t, Int.toNat_zero, Int.toNat_one, tn2, tn3, Nat.mul_one, Nat.zero_add, Nat.zero_mul, Nat.add_zero]
      simp only [List.append_assoc]
      rfl
/-- The range of a component. -/
def lo (d : Int) (s : Bool) : Int := bif dp d then (bif s then -(p2 (d - 1)) else 0) else 0
def hi (d : Int) (s : Bool) : Int := bif dp d then (bif s then p2 (d - 1) - 1 else p2 d - 1) else 0
def off (d : Int) (s : Bool) : Int := bif s then 0 else p2 (d - 1)
theorem Range_eq (d : Int) (s : Bool) (x y : Int) (H : Heap) : ∃ J, ∀ (R : Type) (K : Int → Int → Heap → Option R), color_Range d s x y H K = K (lo d s) (hi d s) (H ++ J) := by
  unfold lo hi
  cases hd : dp d with
  | false =>
    refine ⟨?J21, fun R K => ?M21⟩
    case M21 =>
      unfold color_Range color_Range_b
      simp (disch := (first | assumption | omega | exact Nat.le_of_ble_eq_true rfl | (simp only [List.length_append, List.length_cons, List.length_nil]; omega))) only [deep_eq, hd, Bool.not_false, hal_x, hmk_x, hcell_new, hcell_old, hidx_x, hfad_x, hnil_x, ldI_x, ldB_x, ldP_x, ldL_x, pad_some, get0, gets, ik64, ik8, ik32, iku64, cond_true, cond_false, hst_new, hst_old, splice_cc, splice_nn, one_n, one_i, one_b, one_p, one_s, one_t, Int.toNat_zero, Int.toNat_one, tn2, tn3, Nat.mul_one, Nat.zero_add, Nat.zero_mul, Nat.add_zero]
      rfl
  | true =>
    have := dp_of hd
    have b1 := p2_le (n := d) (by omega)
    have b2 := p2_le (n := d - 1) (by omega)
    have b3 := p2_pos d
    have b4 := p2_pos (d - 1)
    have w1 : IntKind.wrap .i64 (d - 1) = d - 1 := w64 (by omega) (by omega)
    have w2 : IntKind.wrap .i64 (p2 (d - 1) - 1) = p2 (d - 1) - 1 := w64 (by omega) (by omega)
    have w3 : IntKind.wrap .i64 (p2 d - 1) = p2 d - 1 := w64 (by omega) (by omega)
    have s1 : ∀ (R : Type) (K : Int → Option R), hbin .shl .i64 1 (d - 1) K = K (p2 (d - 1)) := fun R K => shl_eq (by omega) (by omega) K
    have s2 : ∀ (R : Type) (K : Int → Option R), hbin .shl .i64 (-1) (d - 1) K = K (-(p2 (d - 1))) := fun R K => shm_eq (by omega) (by omega) K
    have s3 : ∀ (R : Type) (K : Int → Option R), hbin .shl .i64 1 d K = K (p2 d) := fun R K => shl_eq (by omega) (by omega) K
    cases s with
    | true =>
      refine ⟨?J22, fun R K => ?M22⟩
      case M22 =>
        unfold color_Range color_Range_b
        simp (disch := (first | assumption | omega | exact Nat.le_of_ble_eq_true rfl | (simp only [List.length_append, List.length_cons, List.length_nil]; omega))) only [deep_eq, hd, Bool.not_true, w1, s1, s2, w2, hal_x, hmk_x, hcell_new, hcell_old, hidx_x, hfad_x, hnil_x, ldI_x, ldB_x, ldP_x, ldL_x, pad_some, get0, gets, ik64, ik8, ik32, iku64, cond_true, cond_false, hst_new, hst_old, splice_cc, splice_nn, one_n, one_i, one_b, one_p, one_s, one_t, Int.toNat_zero, Int.toNat_one, tn2, tn3, Nat.mul_one, Nat.zero_add, Nat.zero_mul, Nat.add_zero]
        rfl
    | false =>
      refine ⟨?J23, fun R K => ?M23⟩
      case M23 =>
        unfold color_Range color_Range_b
        simp (disch := (first | assumption | omega | exact Nat.le_of_ble_eq_true rfl | (simp only [List.length_append, List.length_cons, List.length_nil]; omega))) only [deep_eq, hd, Bool.not_true, s3, w3, hal_x, hmk_x, hcell_new, hcell_old, hidx_x, hfad_x, hnil_x, ldI_x, ldB_x, ldP_x, ldL_x, pad_some, get0, gets, ik64, ik8, ik32, iku64, cond_true, cond_false, hst_new, hst_old, splice_cc, splice_nn, one_n, one_i, one_b, one_p, one_s, one_t, Int.toNat_zero, Int.toNat_one, tn2, tn3, Nat.mul_one, Nat.zero_add, Nat.zero_mul, Nat.add_zero]
        rfl
theorem RangeR_eq (k : Nat) (hk : 70 < k) (d : Int) (s : Bool) (x y : Int) (H : Heap) : ∃ J, ∀ (R : Type) (K : Int → Int → Heap → Option R), R07_Range k d s x y H K = K (lo d s) (hi d s) (H ++ J) := by
  unfold lo hi
  cases hd : dp d with
  | false =>
    by_cases c1 : d < 1
    · have e1 : decide (d < 1) = true := decide_eq_true c1
      refine ⟨?J24, fun R K => ?M24⟩
      case M24 =>
        unfold R07_Range R07_Range_b R07_Range_p0 R07_Range_p0_b
        simp (disch := (first | assumption | omega | exact Nat.le_of_ble_eq_true rfl | (simp only [List.length_append, List.length_cons, List.length_nil]; omega))) only [e1, hal_x, hmk_x, hcell_new, hcell_old, hidx_x, hfad_x, hnil_x, ldI_x, ldB_x, ldP_x, ldL_x, pad_some, get0, gets, ik64, ik8, ik32, iku64, cond_true, cond_false, hst_new, hst_old, splice_cc, splice_nn, one_n, one_i, one_b, one_p, one_s, one_t, Int.toNat_zero, Int.toNat_one, tn2, tn3, Nat.mul_one, Nat.zero_add, Nat.zero_mul, Nat.add_zero]
        rfl
    · have e1 : decide (d < 1) = false := decide_eq_false c1
      have e2 : decide (d > 16) = true := by
        unfold dp at hd
        simp only [Bool.and_eq_false_iff, decide_eq_false_iff_not] at hd
        exact decide_eq_true (by omega)
      refine ⟨?J25, fun R K => ?M25⟩
      case M25 =>
        unfold R07_Range R07_Range_b R07_Range_p0 R07_Range_p0_b
        simp (disch := (first | assumption | omega | exact Nat.le_of_ble_eq_true rfl | (simp only [List.length_append, List.length_cons, List.length_nil]; omega))) only [e1, e2, hal_x, hmk_x, hcell_new, hcell_old, hidx_x, hfad_x, hnil_x, ldI_x, ldB_x, ldP_x, ldL_x, pad_some, get0, gets, ik64, ik8, ik32, iku64, cond_true, cond_false, hst_new, hst_old, splice_cc, splice_nn, one_n, one_i, one_b, one_p, one_s, one_t, Int.toNat_zero, Int.toNat_one, tn2, tn3, Nat.mul_one, Nat.zero_add, Nat.zero_mul, Nat.add_zero]
        rfl
  | true =>
    have := dp_of hd
    have b2 := p2_le (n := d - 1) (by omega)
    have b4 := p2_pos (d - 1)
    have b5 := p2_succ (n := d) (by omega)
    have e1 : decide (d < 1) = false := decide_eq_false (by omega)
    have e2 : decide (d > 16) = false := decide_eq_false (by omega)
    have w1 : IntKind.wrap .i64 (d - 1) = d - 1 := w64 (by omega) (by omega)
    have w2 : IntKind.wrap .i64 (p2 (d - 1) - 1) = p2 (d - 1) - 1 := w64 (by omega) (by omega)
    have w3 : IntKind.wrap .i64 (2 * p2 (d - 1)) = p2 d := by rw [b5]; exact w64 (by omega) (by omega)
    have w4 : IntKind.wrap .i64 (p2 d - 1) = p2 d - 1 := w64 (by omega) (by omega)
    have w5 : IntKind.wrap .i64 (0 - p2 (d - 1)) = -(p2 (d - 1)) := by rw [w64 (by omega) (by omega)]; omega
    have s1 : ∀ (R : Type) (K : Int → Option R), R07_power k (d - 1) K = K (p2 (d - 1)) := fun R K => power_eq k hk (by omega) (by omega) K
    cases s with
    | true =>
      refine ⟨?J26, fun R K => ?M26⟩
      case M26 =>
        unfold R07_Range R07_Range_b R07_Range_p0 R07_Range_p0_b
        simp (disch := (first | assumption | omega | exact Nat.le_of_ble_eq_true rfl | (simp only [List.length_append, List.length_cons, List.length_nil]; omega))) only [e1, e2, w1, s1, w2, w5, hal_x, hmk_x, hcell_new, hcell_old, hidx_x, hfad_x, hnil_x, ldI_x, ldB_x, ldP_x, ldL_x, pad_some, get0, gets, ik64, ik8, ik32, iku64, cond_true, cond_false, hst_new, hst_old, splice_cc, splice_nn, one_n, one_i, one_b, one_p, one_s, one_t, Int.toNat_zero, Int.toNat_one, tn2, tn3, Nat.mul_one, Nat.zero_add, Nat.zero_mul, Nat.add_zero]
        rfl
    | false =>
      refine ⟨?J27, fun R K => ?M27⟩
      case M27 =>
        unfold R07_Range R07_Range_b R07_Range_p0 R07_Range_p0_b
        simp (disch := (first | assumption | omega | exact Nat.le_of_ble_eq_true rfl | (simp only [List.length_append, List.length_cons, List.length_nil]; omega))) only [e1, e2, w1, s1, w3, w4, hal_x, hmk_x, hcell_new, hcell_old, hidx_x, hfad_x, hnil_x, ldI_x, ldB_x, ldP_x, ldL_x, pad_some, get0, gets, ik64, ik8, ik32, iku64, cond_true, cond_false, hst_new, hst_old, splice_cc, splice_nn, one_n, one_i, one_b, one_p, one_s, one_t, Int.toNat_zero, Int.toNat_one, tn2, tn3, Nat.mul_one, Nat.zero_add, Nat.zero_mul, Nat.add_zero]
        rfl
theorem offset_eq {d : Int} (hd : dp d = true) (s : Bool) (x y : Int) (H : Heap) : ∃ J, ∀ (R : Type) (K : Int → Heap → Option R), color_offset d s x y H K = K (off d s) (H ++ J) := by
  unfold off
  have := dp_of hd
  have w1 : IntKind.wrap .i64 (d - 1) = d - 1 := w64 (by omega) (by omega)
  have s1 : ∀ (R : Type) (K : Int → Option R), hbin .shl .i64 1 (d - 1) K = K (p2 (d - 1)) := fun R K => shl_eq (by omega) (by omega) K
  cases s with
  | true =>
    refine ⟨?J28, fun R K => ?M28⟩
    case M28 =>
      unfold color_offset color_offset_b
      simp (disch := (first | assumption | omega | exact Nat.le_of_ble_eq_true rfl | (simp only [List.length_append, List.length_cons, List.length_nil]; omega))) only [w1, s1, hal_x, hmk_x, hcell_new, hcell_old, hidx_x, hfad_x, hnil_x, ldI_x, ldB_x, ldP_x, ldL_x, pad_some, get0, gets, ik64, ik8, ik32, iku64, cond_true, cond_false, hst_new, hst_old, splice_cc, splice_nn, one_n, one_i, one_b, one_p, one_s, one_t, Int.toNat_zero, Int.toNat_one, tn2, tn3, Nat.mul_one, Nat.zero_add, Nat.zero_mul, Nat.add_zero]
      rfl
  | false =>
    refine ⟨?J29, fun R K => ?M29⟩
    case M29 =>
      unfold color_offset color_offset_b
      simp (disch := (first | assumption | omega | exact Nat.le_of_ble_eq_true rfl | (simp only [List.length_append, List.length_cons, List.length_nil]; omega))) only [w1, s1, hal_x, hmk_x, hcell_new, hcell_old, hidx_x, hfad_x, hnil_x, ldI_x, ldB_x, ldP_x, ldL_x, pad_some, get0, gets, ik64, ik8, ik32, iku64, cond_true, cond_false, hst_new, hst_old, splice_cc, splice_nn, one_n, one_i, one_b, one_p, one_s, one_t, Int.toNat_zero, Int.toNat_one, tn2, tn3, Nat.mul_one, Nat.zero_add, Nat.zero_mul, Nat.add_zero]
      rfl
theorem offsetR_eq (k : Nat) (hk : 70 < k) {d : Int} (hd : dp d = true) (s : Bool) (x y : Int) (H : Heap) : ∃ J, ∀ (R : Type) (K : Int → Heap → Option R), R07_Offset k d s x y H K = K (off d s) (H ++ J) := by
  unfold off
  have := dp_of hd
  have w1 : IntKind.wrap .i64 (d - 1) = d - 1 := w64 (by omega) (by omega)
  have s1 : ∀ (R : Type) (K : Int → Option R), R07_power k (d - 1) K = K (p2 (d - 1)) := fun R K => power_eq k hk (by omega) (by omega) K
  cases s with
  | true =>
    refine ⟨?J30, fun R K => ?M30⟩
    case M30 =>
      unfold R07_Offset R07_Offset_b
      simp (disch := (first | assumption | omega | exact Nat.le_of_ble_eq_true rfl | (simp only [List.length_append, List.length_cons, List.length_nil]; omega))) only [w1, s1, hal_x, hmk_x, hcell_new, hcell_old, hidx_x, hfad_x, hnil_x, ldI_x, ldB_x, ldP_x, ldL_x, pad_some, get0, gets, ik64, ik8, ik32, iku64, cond_true, cond_false, hst_new, hst_old, splice_cc, splice_nn, one_n, one_i, one_b, one_p, one_s, one_t, Int.toNat_zero, Int.toNat_one, tn2, tn3, Nat.mul_one, Nat.zero_add, Nat.zero_mul, Nat.add_zero]
      rfl
  | false =>
    refine ⟨?J31, fun R K => ?M31⟩
    case M31 =>
      unfold R07_Offset R07_Offset_b
      simp (disch := (first | assumption | omega | exact Nat.le_of_ble_eq_true rfl | (simp only [List.length_append, List.length_cons, List.length_nil]; omega))) only [w1, s1, hal_x, hmk_x, hcell_new, hcell_old, hidx_x, hfad_x, hnil_x, ldI_x, ldB_x, ldP_x, ldL_x, pad_some, get0, gets, ik64, ik8, ik32, iku64, cond_true, cond_false, hst_new, hst_old, splice_cc, splice_nn, one_n, one_i, one_b, one_p, one_s, one_t, Int.toNat_zero, Int.toNat_one, tn2, tn3, Nat.mul_one, Nat.zero_add, Nat.zero_mul, Nat.add_zero]
      rfl
theorem few1_eq (x0 y0 x1 y1 : Int) (q : Option Addr) (l c : Nat) (H : Heap) : ∃ J, ∀ (R : Type) (K : Bool → Heap → Option R), R02_Few x0 y0 x1 y1 q l c H K = K (decide (l ≤ 400)) (H ++ J) := by
  have e : decide (((l : Nat) : Int) ≤ 400) = decide (l ≤ 400) := decide_eq_decide.2 (by omega)
  refine ⟨?J32, fun R K => ?M32⟩
  case M32 =>
    unfold R02_Few R02_Few_b
    simp (disch := (first | assumption | omega | exact Nat.le_of_ble_eq_true rfl | (simp only [List.length_append, List.length_cons, List.length_nil]; omega))) only [e, hal_x, hmk_x, hcell_new, hcell_old, hidx_x, hfad_x, hnil_x, ldI_x, ldB_x, ldP_x, ldL_x, pad_some, get0, gets, ik64, ik8, ik32, iku64, cond_true, cond_false, hst_new, hst_old, splice_cc, splice_nn, one_n, one_i, one_b, one_p, one_s, one_t, Int.toNat_zero, Int.toNat_one, tn2, tn3, Nat.mul_one, Nat.zero_add, Nat.zero_mul, Nat.add_zero]
    rfl
end Go.Proofs.Ytoeoolnkndkefaa.Sh
/- Color: Shift and Unshift, the program's. -/
set_option linter.unusedVariables false
set_option linter.unusedSimpArgs false
namespace Go.Proofs.Ytoeoolnkndkefaa.Sh
open Go.Proofs.Ytoeoolnkndkefaa.FW
def ints (l : List Int) : List Value := l.map (.int .i64)
theorem ints_len (l : List Int) : (ints l).length = l.length := by simp [ints]
theorem ints_get {l : List Int} {i : Nat} {v : Int} (h : l[i]? = some v) : (ints l)[i]? = some (.int .i64 v) := by simp [ints, h]
/-- Reads an element of a row of numbers. -/
theorem int_at {H : Heap} {q : Option Addr} {xs : List Int} (h : Shows H q (ints xs)) {i : Nat} (hi : i < xs.length) :
    ∃ p, (∀ (R : Type) (K : Option Addr → Option R), hidx q xs.length (i : Int) 1 K = K p) ∧ ∀ (R : Type) (K : Int → Option R), ldI .i64 H p K = K (xs.getD i 0) := by
  obtain ⟨p, e, _, m⟩ := h.idx (l := xs.length) (size := 1) (by rw [ints_len]; omega) (i := (i : Int)) (by omega) (by omega) (by omega)
  refine ⟨p, e, fun R K => ldI_of (m _ ?_) rfl K⟩
  rw [Int.toNat_natCast, Nat.mul_one]
  exact ints_get (by rw [List.getElem?_eq_getElem hi, List.getD_eq_getElem?_getD, List.getElem?_eq_getElem hi]; rfl)
def bad (d : Int) (s : Bool) (v : Int) : Bool := decide (v < lo d s) || decide (v > hi d s)
def zero5 : List Value := [.int .i64 0, .int .i64 0, .int .i64 0, .int .i64 0, .slice none 0 0]
def cmp4 (d : Int) (s : Bool) (x y : Int) : List Value := [.int .i64 d, .bool s, .int .i64 x, .int .i64 y]
def pl5 (x0 y0 x1 y1 : Int) (q : Option Addr) (l c : Nat) : List Value := [.int .i64 x0, .int .i64 y0, .int .i64 x1, .int .i64 y1, .slice q l c]
def done (f : Int → Int) (xs : List Int) (i j : Nat) : Value := if j < i then .int .i64 (f (xs.getD j 0)) else .int .i64 0
theorem done_next (f : Int → Int) (xs : List Int) (i j : Nat) : (if j = i then Value.int .i64 (f (xs.getD i 0)) else done f xs i j) = done f xs (i + 1) j := by
  unfold done
  by_cases c : j = i
  · subst c; rw [if_pos rfl, if_pos (by omega)]
  · rw [if_neg c]
    by_cases c2 : j < i
    · rw [if_pos c2, if_pos (by omega)]
    · rw [if_neg c2, if_neg (by omega)]
section
variable {d : Int} {s : Bool} {x y x0 y0 x1 y1 : Int}
theorem shift_loop (k : Nat) {N : Nat} {xs : List Int} {q : Option Addr} (c : Nat) {bc br bp bd : Nat} (hd : dp d = true) (h1 : bd ≠ bc) (h2 : bd ≠ br) (h3 : bd ≠ bp) (nd : N ≤ bd) (nr : N ≤ br) (hq : ints xs = [] ∨ Below N q) (hl : xs.length ≤ 2000000) :
    ∀ (m n i : Nat), m < n → xs.length = i + m → ∀ (H : Heap), Shows H q (ints xs) → Sees H bc (cmp4 d s x y) → Owns H br zero5 0 → Sees H bp (pl5 x0 y0 x1 y1 (some ⟨bd, 0, none⟩) xs.length xs.length) → OwnV H bd xs.length (done (fun v => W (v - off d s)) xs i) → N ≤ H.length →
    ∃ H', Old N H H' ∧ Owns H' br zero5 0 ∧
      (((xs.drop i).any (bad d s) = false ∧ (∀ (R : Type) (KE : Option Addr → Option Addr → Heap → Option R) (KR : Option Addr → Int → Heap → Option R), color_Shift_l0 k KE KR n (some ⟨bc, 0, none⟩) (some ⟨br, 0, none⟩) (lo d s) (hi d s) (some ⟨bp, 0, none⟩) q xs.length c ((xs.length : Nat) : Int) (i : Int) H = KE (some ⟨br, 0, none⟩) (some ⟨bp, 0, none⟩) H') ∧
          Sees H' bp (pl5 x0 y0 x1 y1 (some ⟨bd, 0, none⟩) xs.length xs.length) ∧ OwnV H' bd xs.length (done (fun v => W (v - off d s)) xs xs.length)) ∨
       ((xs.drop i).any (bad d s) = true ∧ ∀ (R : Type) (KE : Option Addr → Option Addr → Heap → Option R) (KR : Option Addr → Int → Heap → Option R), color_Shift_l0 k KE KR n (some ⟨bc, 0, none⟩) (some ⟨br, 0, none⟩) (lo d s) (hi d s) (some ⟨bp, 0, none⟩) q xs.length c ((xs.length : Nat) : Int) (i : Int) H = KR (some ⟨br, 0, none⟩) 2 H')) := by
  intro m
  induction m with
  | zero =>
    intro n i hn hi' H hS hC hR hP hD hN
    obtain ⟨n, rfl⟩ : ∃ n', n = n' + 1 := ⟨n - 1, by omega⟩
    have hi0 : xs.length = i := by omega
    refine ⟨H, .refl _ _, hR, .inl ⟨by rw [List.drop_of_length_le (by omega)]; rfl, fun R KE KR => ?_, hP, by rw [← hi0] at hD; exact hD⟩⟩
    have ed : decide ((i : Int) < ((xs.length : Nat) : Int)) = false := decide_eq_false (by omega)
    simp only [color_Shift_l0, color_Shift_l0_b, ed, cond_false]
  | succ m ih =>
    intro n i hn hi' H hS hC hR hP hD hN
    obtain ⟨n, rfl⟩ : ∃ n', n = n' + 1 := ⟨n - 1, by omega⟩
    have hlt : i < xs.length := by omega
    have ed : decide ((i : Int) < ((xs.length : Nat) : Int)) = true := decide_eq_true (by omega)
    obtain ⟨p, e1, l1⟩ := int_at hS hlt
    have hdr : xs.drop i = xs.getD i 0 :: xs.drop (i + 1) := by
      rw [List.drop_eq_getElem_cons hlt, List.getD_eq_getElem?_getD, List.getElem?_eq_getElem hlt]; rfl
    rw [hdr, List.any_cons]
    generalize hv : xs.getD i 0 = v at l1
    cases hb : bad d s v with
    | true =>
      obtain ⟨H', e2, O2, b2, n2⟩ := hR.st (vs := zero5) rfl rfl
      refine ⟨H', b2.old nr hN, O2, .inr ⟨rfl, fun R KE KR => ?_⟩⟩
      unfold zero5 at e2
      unfold bad at hb
      rw [Bool.or_eq_true, decide_eq_true_eq, decide_eq_true_eq] at hb
      by_cases c1 : v < lo d s
      · have d1 : decide (v < lo d s) = true := decide_eq_true c1
        simp only [color_Shift_l0, color_Shift_l0_b, color_Shift_p1, color_Shift_p1_b, ed, cond_true, e1, l1, d1, e2]
      · have d1 : decide (v < lo d s) = false := decide_eq_false c1
        have d2 : decide (v > hi d s) = true := decide_eq_true (by omega)
        simp only [color_Shift_l0, color_Shift_l0_b, color_Shift_p1, color_Shift_p1_b, ed, cond_true, cond_false, e1, l1, d1, d2, e2]
    | false =>
      obtain ⟨J, e3⟩ := offset_eq hd s x y (roH H)
      obtain ⟨H1, e4, O4, b4, n4⟩ := hD.put hlt (.int .i64 (W (v - off d s)))
      have hD1 : OwnV H1 bd xs.length (done (fun v => W (v - off d s)) xs (i + 1)) := O4.congr fun j hj => by rw [← hv]; exact done_next (fun v => W (v - off d s)) xs i j
      have o1 := b4.old nd hN
      obtain ⟨H', o', R', h'⟩ := ih n (i + 1) (by omega) (by omega) H1 (hS.old o1 hq) (hC.but b4 (Ne.symm h1)) (hR.but b4 (Ne.symm h2)) (hP.but b4 (Ne.symm h3)) hD1 (by omega)
      unfold bad at hb
      rw [Bool.or_eq_false_iff] at hb
      have mc := hC.cell
      have mp := hP.cell
      unfold cmp4 at mc
      unfold pl5 at mp
      have ew : IntKind.wrap .i64 ((i : Int) + 1) = ((i + 1 : Nat) : Int) := by rw [w64 (by omega) (by omega)]; rfl
      have xd : ∀ (R : Type) (K : Option Addr → Option R), hidx (some ⟨bd, 0, none⟩) xs.length (i : Int) 1 K = K (some ⟨bd, i, none⟩) := fun R K => by rw [hidx_1 bd _ 0 _ (by omega) (by omega), Int.toNat_natCast, Nat.zero_add]
      have step : ∀ (R : Type) (KE : Option Addr → Option Addr → Heap → Option R) (KR : Option Addr → Int → Heap → Option R), color_Shift_l0 k KE KR (n + 1) (some ⟨bc, 0, none⟩) (some ⟨br, 0, none⟩) (lo d s) (hi d s) (some ⟨bp, 0, none⟩) q xs.length c ((xs.length : Nat) : Int) (i : Int) H = color_Shift_l0 k KE KR n (some ⟨bc, 0, none⟩) (some ⟨br, 0, none⟩) (lo d s) (hi d s) (some ⟨bp, 0, none⟩) q xs.length c ((xs.length : Nat) : Int) ((i + 1 : Nat) : Int) H1 := fun R KE KR => by
        simp only [color_Shift_l0, color_Shift_l0_b, color_Shift_p1, color_Shift_p1_b, ed, cond_true, cond_false, e1, l1, hb.1, hb.2]
        simp (disch := (first | assumption | omega | exact Nat.le_of_ble_eq_true rfl | (simp only [List.length_append, List.length_cons, List.length_nil]; omega))) only [mc, mp, e3, xd, e4, ew, hal_x, hmk_x, hcell_new, hcell_old, hidx_x, hfad_x, hnil_x, ldI_x, ldB_x, ldP_x, ldL_x, pad_some, get0, gets, ik64, ik8, ik32, iku64, cond_true, cond_false, hst_new, hst_old, splice_cc, splice_nn, one_n, one_i, one_b, one_p, one_s, one_t, Int.toNat_zero, Int.toNat_one, tn2, tn3, Nat.mul_one, Nat.zero_add, Nat.zero_mul, Nat.add_zero]
      refine ⟨H', o1.trans o', R', ?_⟩
      rcases h' with ⟨a1, a2, a3, a4⟩ | ⟨a1, a2⟩
      · exact .inl ⟨by rw [Bool.false_or]; exact a1, fun R KE KR => (step R KE KR).trans (a2 R KE KR), a3, a4⟩
      · exact .inr ⟨by rw [Bool.false_or]; exact a1, fun R KE KR => (step R KE KR).trans (a2 R KE KR)⟩
end
def zz (e x : Int) : Int := bif e == 0 then x else 0
/-- What Shift returns: the error and the samples. -/
def shf (x0 y0 x1 y1 : Int) (xs : List Int) (d : Int) (s : Bool) : Int × List Int :=
  bif pv x0 y0 x1 y1 xs.length then (bif dp d then (bif xs.any (bad d s) then (2, []) else (0, xs.map fun v => W (v - off d s))) else (12, [])) else (1, [])
theorem done_all (f : Int → Int) (xs : List Int) : vcells xs.length (done f xs xs.length) = ints (xs.map f) := by
  unfold ints vcells
  apply List.ext_getElem?
  intro i
  by_cases h : i < xs.length
  · simp [h, done]
  · rw [List.getElem?_eq_none (by simp; omega), List.getElem?_eq_none (by simp; omega)]
set_option maxHeartbeats 4000000 in
theorem Shift_eq' (k : Nat) (hk : 500 < k) {H : Heap} {q : Option Addr} {xs : List Int} (hS : Shows H q (ints xs)) (hl : xs.length ≤ 400) (x0 y0 x1 y1 : Int) (c : Nat) (d : Int) (s : Bool) (x y : Int) :
    ∃ q' c' H', (∀ (R : Type) (K : Int → Int → Int → Int → Option Addr → Nat → Nat → Int → Heap → Option R), color_Shift k x0 y0 x1 y1 q xs.length c d s x y H K = K (zz (shf x0 y0 x1 y1 xs d s).1 x0) (zz (shf x0 y0 x1 y1 xs d s).1 y0) (zz (shf x0 y0 x1 y1 xs d s).1 x1) (zz (shf x0 y0 x1 y1 xs d s).1 y1) q' (shf x0 y0 x1 y1 xs d s).2.length c' (shf x0 y0 x1 y1 xs d s).1 H') ∧ Shows H' q' (ints (shf x0 y0 x1 y1 xs d s).2) ∧ Old H.length H H' ∧ ∀ a, q' = some a → H.length ≤ a.block := by
  obtain ⟨J1, e1⟩ := planeValid_eq x0 y0 x1 y1 q xs.length c (H ++ [some ⟨[.int .i64 x0, .int .i64 y0, .int .i64 x1, .int .i64 y1, .slice q xs.length c], false, 0⟩] ++ [some ⟨[.int .i64 d, .bool s, .int .i64 x, .int .i64 y], false, 0⟩] ++ [some ⟨[.int .i64 0, .int .i64 0, .int .i64 0, .int .i64 0, .slice none 0 0], false, 0⟩])
  unfold shf
  cases hv : pv x0 y0 x1 y1 xs.length with
  | false =>
    rw [hv] at e1
    refine ⟨none, 0, ?J1, fun R K => ?M1, .inl rfl, ?O1, fun a ha => by cases ha⟩
    case M1 =>
      unfold color_Shift color_Shift_b
      simp (disch := (first | assumption | omega | exact Nat.le_of_ble_eq_true rfl | (simp only [List.length_append, List.length_cons, List.length_nil]; omega))) only [e1, Bool.not_false, hal_x, hmk_x, hcell_new, hcell_old, hidx_x, hfad_x, hnil_x, ldI_x, ldB_x, ldP_x, ldL_x, pad_some, get0, gets, ik64, ik8, ik32, iku64, cond_true, cond_false, hst_new, hst_old, splice_cc, splice_nn, one_n, one_i, one_b, one_p, one_s, one_t, Int.toNat_zero, Int.toNat_one, tn2, tn3, Nat.mul_one, Nat.zero_add, Nat.zero_mul, Nat.add_zero]
      rfl
    case O1 => simp only [List.append_assoc]; exact Old.app _ _
  | true =>
    rw [hv] at e1
    cases hd : dp d with
    | false =>
      refine ⟨none, 0, ?J2, fun R K => ?M2, .inl rfl, ?O2, fun a ha => by cases ha⟩
      case M2 =>
        unfold color_Shift color_Shift_b
        simp (disch := (first | assumption | omega | exact Nat.le_of_ble_eq_true rfl | (simp only [List.length_append, List.length_cons, List.length_nil]; omega))) only [e1, Bool.not_true, Bool.not_false, deep_eq, hd, hal_x, hmk_x, hcell_new, hcell_old, hidx_x, hfad_x, hnil_x, ldI_x, ldB_x, ldP_x, ldL_x, pad_some, get0, gets, ik64, ik8, ik32, iku64, cond_true, cond_false, hst_new, hst_old, splice_cc, splice_nn, one_n, one_i, one_b, one_p, one_s, one_t, Int.toNat_zero, Int.toNat_one, tn2, tn3, Nat.mul_one, Nat.zero_add, Nat.zero_mul, Nat.add_zero]
        rfl
      case O2 => simp only [List.append_assoc]; exact Old.app _ _
    | true =>
      have hall : ∃ HL bc br bp bd, Old H.length H HL ∧ H.length ≤ bd ∧ H.length ≤ br ∧ bd ≠ bc ∧ bd ≠ br ∧ bd ≠ bp ∧ bp ≠ br ∧ Sees HL bc (cmp4 d s x y) ∧ Owns HL br zero5 0 ∧ Sees HL bp (pl5 x0 y0 x1 y1 (some ⟨bd, 0, none⟩) xs.length xs.length) ∧ OwnV HL bd xs.length (fun _ => .int .i64 0) ∧
          ∀ (R : Type) (K : Int → Int → Int → Int → Option Addr → Nat → Nat → Int → Heap → Option R), color_Shift k x0 y0 x1 y1 q xs.length c d s x y H K = color_Shift_l0 k (fun p247 p248 H249 =>
            ldI .i64 H249 (pad p248 0) fun n250 => ldI .i64 H249 (pad p248 1) fun n251 => ldI .i64 H249 (pad p248 2) fun n252 => ldI .i64 H249 (pad p248 3) fun n253 => ldL H249 (pad p248 4) fun q254 l255 c256 =>
            hst H249 p247 [.int .i64 n250, .int .i64 n251, .int .i64 n252, .int .i64 n253, .slice q254 l255 c256] fun H257 =>
            ldI .i64 H257 (pad p247 0) fun n258 => ldI .i64 H257 (pad p247 1) fun n259 => ldI .i64 H257 (pad p247 2) fun n260 => ldI .i64 H257 (pad p247 3) fun n261 => ldL H257 (pad p247 4) fun q262 l263 c264 => K n258 n259 n260 n261 q262 l263 c264 0 H257)
            (fun p265 n266 H267 => ldI .i64 H267 (pad p265 0) fun n268 => ldI .i64 H267 (pad p265 1) fun n269 => ldI .i64 H267 (pad p265 2) fun n270 => ldI .i64 H267 (pad p265 3) fun n271 => ldL H267 (pad p265 4) fun q272 l273 c274 => K n268 n269 n270 n271 q272 l273 c274 n266 H267)
            k (some ⟨bc, 0, none⟩) (some ⟨br, 0, none⟩) (lo d s) (hi d s) (some ⟨bp, 0, none⟩) q xs.length c ((xs.length : Nat) : Int) 0 HL := by
        obtain ⟨J2, e2⟩ := Range_eq d s x y (H ++ [some ⟨[.int .i64 x0, .int .i64 y0, .int .i64 x1, .int .i64 y1, .slice q xs.length c], false, 0⟩] ++ [some ⟨[.int .i64 d, .bool s, .int .i64 x, .int .i64 y], false, 0⟩] ++ [some ⟨[.int .i64 0, .int .i64 0, .int .i64 0, .int .i64 0, .slice none 0 0], false, 0⟩] ++ J1)
        refine ⟨?HL, ?bc, ?br, ?bp, ?bd, ?o1, ?o2, ?o3, ?o4, ?o5, ?o6, ?o7, ?s1, ?s2, ?s3, ?s4, fun R K => ?main⟩
        case main =>
          unfold color_Shift color_Shift_b
          simp (disch := (first | assumption | omega | exact Nat.le_of_ble_eq_true rfl | (simp only [List.length_append, List.length_cons, List.length_nil]; omega))) only [e1, Bool.not_true, deep_eq, hd, e2, hal_x, hmk_x, hcell_new, hcell_old, hidx_x, hfad_x, hnil_x, ldI_x, ldB_x, ldP_x, ldL_x, pad_some, get0, gets, ik64, ik8, ik32, iku64, cond_true, cond_false, hst_new, hst_old, splice_cc, splice_nn, one_n, one_i, one_b, one_p, one_s, one_t, Int.toNat_zero, Int.toNat_one, tn2, tn3, Nat.mul_one, Nat.zero_add, Nat.zero_mul, Nat.add_zero]
          rfl
        case s3 =>
          refine ⟨⟨pl5 x0 y0 x1 y1 (some ⟨?bd, 0, none⟩) xs.length xs.length, false, 0⟩, ?_, rfl⟩
          unfold pl5
          simp (disch := (first | assumption | omega | exact Nat.le_of_ble_eq_true rfl | (simp only [List.length_append, List.length_cons, List.length_nil]; omega))) only [hblk_new, hblk_old]
          rfl
        case o1 => simp only [List.append_assoc]; exact Old.app _ _
        case o2 => simp only [List.length_append, List.length_cons, List.length_nil]; omega
        case o3 => simp only [List.length_append, List.length_cons, List.length_nil]; omega
        case o4 => simp only [List.length_append, List.length_cons, List.length_nil, ne_eq]; omega
        case o5 => simp only [List.length_append, List.length_cons, List.length_nil, ne_eq]; omega
        case o6 => simp only [List.length_append, List.length_cons, List.length_nil, ne_eq]; omega
        case o7 => simp only [List.length_append, List.length_cons, List.length_nil, ne_eq]; omega
        case s1 => exact ⟨⟨cmp4 d s x y, false, 0⟩, by unfold cmp4; simp (disch := (first | assumption | omega | exact Nat.le_of_ble_eq_true rfl | (simp only [List.length_append, List.length_cons, List.length_nil]; omega))) only [hblk_new, hblk_old], rfl⟩
        case s2 => unfold Owns zero5; simp (disch := (first | assumption | omega | exact Nat.le_of_ble_eq_true rfl | (simp only [List.length_append, List.length_cons, List.length_nil]; omega))) only [hblk_new, hblk_old]
        case s4 => unfold OwnV Owns; simp (disch := (first | assumption | omega | exact Nat.le_of_ble_eq_true rfl | (simp only [List.length_append, List.length_cons, List.length_nil]; omega))) only [hblk_new, hblk_old]
      obtain ⟨HL, bc, br, bp, bd, o1, o2, o3, o4, o5, o6, o7, s1, s2, s3, s4, em⟩ := hall
      have hb : ints xs = [] ∨ Below H.length q := by
        rcases hS with h | ⟨b, o, full, rfl, h1, _⟩
        · exact .inl h
        · exact .inr fun a ha => by cases ha; exact h1.lt
      obtain ⟨H', p1, p2, p3⟩ := shift_loop k c hd o4 o5 o6 o2 o3 hb (by omega) xs.length k 0 (by omega) (by omega) HL (hS.keep o1) s1 s2 s3 (s4.congr fun j hj => by unfold done; rw [if_neg (by omega)]) o1.1
      simp only [List.drop_zero, Int.natCast_zero] at p3
      rcases p3 with ⟨r1, r2, r3, r4⟩ | ⟨r1, r2⟩
      · obtain ⟨H2, e3, O2, b2, n2⟩ := p2.st (vs := pl5 x0 y0 x1 y1 (some ⟨bd, 0, none⟩) xs.length xs.length) rfl rfl
        have mp := r3.cell
        have mr := O2.sees.cell
        unfold pl5 at mp mr e3
        rw [r1]
        refine ⟨some ⟨bd, 0, none⟩, xs.length, H2, fun R K => ?_, ?_, o1.trans (p1.trans (b2.old o3 (by have := p1.1; have := o1.1; omega))), fun a ha => by cases ha; exact o2⟩
        · rw [em, r2]
          simp (disch := (first | assumption | omega | exact Nat.le_of_ble_eq_true rfl | (simp only [List.length_append, List.length_cons, List.length_nil]; omega))) only [mp, mr, e3, hal_x, hmk_x, hcell_new, hcell_old, hidx_x, hfad_x, hnil_x, ldI_x, ldB_x, ldP_x, ldL_x, pad_some, get0, gets, ik64, ik8, ik32, iku64, cond_true, cond_false, hst_new, hst_old, splice_cc, splice_nn, one_n, one_i, one_b, one_p, one_s, one_t, Int.toNat_zero, Int.toNat_one, tn2, tn3, Nat.mul_one, Nat.zero_add, Nat.zero_mul, Nat.add_zero]
          simp only [List.length_map]
          rfl
        · have := (r4.but b2 o5).sees.shows
          rw [done_all] at this
          exact this
      · have mr := p2.sees.cell
        unfold zero5 at mr
        rw [r1]
        refine ⟨none, 0, H', fun R K => ?_, .inl rfl, o1.trans p1, fun a ha => by cases ha⟩
        rw [em, r2]
        simp (disch := (first | assumption | omega | exact Nat.le_of_ble_eq_true rfl | (simp only [List.length_append, List.length_cons, List.length_nil]; omega))) only [mr, hal_x, hmk_x, hcell_new, hcell_old, hidx_x, hfad_x, hnil_x, ldI_x, ldB_x, ldP_x, ldL_x, pad_some, get0, gets, ik64, ik8, ik32, iku64, cond_true, cond_false, hst_new, hst_old, splice_cc, splice_nn, one_n, one_i, one_b, one_p, one_s, one_t, Int.toNat_zero, Int.toNat_one, tn2, tn3, Nat.mul_one, Nat.zero_add, Nat.zero_mul, Nat.add_zero]
        rfl
theorem Shift_eq (k : Nat) (hk : 500 < k) {H : Heap} {q : Option Addr} {xs : List Int} (hS : Shows H q (ints xs)) (hl : xs.length ≤ 400) (x0 y0 x1 y1 : Int) (c : Nat) (d : Int) (s : Bool) (x y : Int) :
    ∃ q' c' H', (∀ (R : Type) (K : Int → Int → Int → Int → Option Addr → Nat → Nat → Int → Heap → Option R), color_Shift k x0 y0 x1 y1 q xs.length c d s x y H K = K (zz (shf x0 y0 x1 y1 xs d s).1 x0) (zz (shf x0 y0 x1 y1 xs d s).1 y0) (zz (shf x0 y0 x1 y1 xs d s).1 x1) (zz (shf x0 y0 x1 y1 xs d s).1 y1) q' (shf x0 y0 x1 y1 xs d s).2.length c' (shf x0 y0 x1 y1 xs d s).1 H') ∧ Shows H' q' (ints (shf x0 y0 x1 y1 xs d s).2) ∧ Old H.length H H' := by
  obtain ⟨q', c', H', e, s', o, _⟩ := Shift_eq' k hk hS hl x0 y0 x1 y1 c d s x y
  exact ⟨q', c', H', e, s', o⟩
end Go.Proofs.Ytoeoolnkndkefaa.Sh
/- Color: Unshift, the program's. -/
set_option linter.unusedVariables false
set_option linter.unusedSimpArgs false
namespace Go.Proofs.Ytoeoolnkndkefaa.Sh
open Go.Proofs.Ytoeoolnkndkefaa.FW
def unv (d : Int) (s : Bool) (v : Int) : Int := W (imn (imx v (W (lo d s - off d s))) (W (hi d s - off d s)) + off d s)
/-- What Unshift returns: the error and the samples. -/
def usf (x0 y0 x1 y1 : Int) (xs : List Int) (d : Int) (s : Bool) : Int × List Int :=
  bif pv x0 y0 x1 y1 xs.length then (bif dp d then (0, xs.map (unv d s)) else (12, [])) else (1, [])
section
variable {d : Int} {s : Bool} {x y x0 y0 x1 y1 : Int}
theorem unshift_loop (k : Nat) {N : Nat} {xs : List Int} {q : Option Addr} (c : Nat) {br bp bd : Nat} (h2 : bd ≠ br) (h3 : bd ≠ bp) (nd : N ≤ bd) (nr : N ≤ br) (hq : ints xs = [] ∨ Below N q) (hl : xs.length ≤ 2000000) :
    ∀ (m n i : Nat), m < n → xs.length = i + m → ∀ (H : Heap), Shows H q (ints xs) → Owns H br zero5 0 → Sees H bp (pl5 x0 y0 x1 y1 (some ⟨bd, 0, none⟩) xs.length xs.length) → OwnV H bd xs.length (done (unv d s) xs i) → N ≤ H.length →
    ∃ H', Old N H H' ∧ Owns H' br zero5 0 ∧ (∀ (R : Type) (KE : Option Addr → Option Addr → Heap → Option R), color_Unshift_l0 k KE n (some ⟨br, 0, none⟩) (lo d s) (hi d s) (off d s) (some ⟨bp, 0, none⟩) q xs.length c ((xs.length : Nat) : Int) (i : Int) H = KE (some ⟨br, 0, none⟩) (some ⟨bp, 0, none⟩) H') ∧
          Sees H' bp (pl5 x0 y0 x1 y1 (some ⟨bd, 0, none⟩) xs.length xs.length) ∧ OwnV H' bd xs.length (done (unv d s) xs xs.length) := by
  intro m
  induction m with
  | zero =>
    intro n i hn hi' H hS hR hP hD hN
    obtain ⟨n, rfl⟩ : ∃ n', n = n' + 1 := ⟨n - 1, by omega⟩
    have hi0 : xs.length = i := by omega
    refine ⟨H, .refl _ _, hR, fun R KE => ?_, hP, by rw [← hi0] at hD; exact hD⟩
    have ed : decide ((i : Int) < ((xs.length : Nat) : Int)) = false := decide_eq_false (by omega)
    simp only [color_Unshift_l0, color_Unshift_l0_b, ed, cond_false]
  | succ m ih =>
    intro n i hn hi' H hS hR hP hD hN
    obtain ⟨n, rfl⟩ : ∃ n', n = n' + 1 := ⟨n - 1, by omega⟩
    have hlt : i < xs.length := by omega
    have ed : decide ((i : Int) < ((xs.length : Nat) : Int)) = true := decide_eq_true (by omega)
    obtain ⟨p, e1, l1⟩ := int_at hS hlt
    obtain ⟨H1, e4, O4, b4, n4⟩ := hD.put hlt (.int .i64 (unv d s (xs.getD i 0)))
    have hD1 : OwnV H1 bd xs.length (done (unv d s) xs (i + 1)) := O4.congr fun j hj => done_next (unv d s) xs i j
    have o1 := b4.old nd hN
    obtain ⟨H', o', R', h1', h2', h3'⟩ := ih n (i + 1) (by omega) (by omega) H1 (hS.old o1 hq) (hR.but b4 (Ne.symm h2)) (hP.but b4 (Ne.symm h3)) hD1 (by omega)
    have mp := hP.cell
    unfold pl5 at mp
    unfold unv W at e4
    have ew : IntKind.wrap .i64 ((i : Int) + 1) = ((i + 1 : Nat) : Int) := by rw [w64 (by omega) (by omega)]; rfl
    have xd : ∀ (R : Type) (K : Option Addr → Option R), hidx (some ⟨bd, 0, none⟩) xs.length (i : Int) 1 K = K (some ⟨bd, i, none⟩) := fun R K => by rw [hidx_1 bd _ 0 _ (by omega) (by omega), Int.toNat_natCast, Nat.zero_add]
    refine ⟨H', o1.trans o', R', fun R KE => ?_, h2', h3'⟩
    refine Eq.trans ?_ (h1' R KE)
    simp only [color_Unshift_l0, color_Unshift_l0_b, ed, cond_true, e1, l1]
    simp (disch := (first | assumption | omega | exact Nat.le_of_ble_eq_true rfl | (simp only [List.length_append, List.length_cons, List.length_nil]; omega))) only [mp, xd, e4, ew, hal_x, hmk_x, hcell_new, hcell_old, hidx_x, hfad_x, hnil_x, ldI_x, ldB_x, ldP_x, ldL_x, pad_some, get0, gets, ik64, ik8, ik32, iku64, cond_true, cond_false, hst_new, hst_old, splice_cc, splice_nn, one_n, one_i, one_b, one_p, one_s, one_t, Int.toNat_zero, Int.toNat_one, tn2, tn3, Nat.mul_one, Nat.zero_add, Nat.zero_mul, Nat.add_zero]
end
set_option maxHeartbeats 4000000 in
theorem Unshift_eq (k : Nat) (hk : 500 < k) {H : Heap} {q : Option Addr} {xs : List Int} (hS : Shows H q (ints xs)) (hl : xs.length ≤ 400) (x0 y0 x1 y1 : Int) (c : Nat) (d : Int) (s : Bool) (x y : Int) :
    ∃ q' c' H', (∀ (R : Type) (K : Int → Int → Int → Int → Option Addr → Nat → Nat → Int → Heap → Option R), color_Unshift k x0 y0 x1 y1 q xs.length c d s x y H K = K (zz (usf x0 y0 x1 y1 xs d s).1 x0) (zz (usf x0 y0 x1 y1 xs d s).1 y0) (zz (usf x0 y0 x1 y1 xs d s).1 x1) (zz (usf x0 y0 x1 y1 xs d s).1 y1) q' (usf x0 y0 x1 y1 xs d s).2.length c' (usf x0 y0 x1 y1 xs d s).1 H') ∧ Shows H' q' (ints (usf x0 y0 x1 y1 xs d s).2) ∧ Old H.length H H' := by
  obtain ⟨J1, e1⟩ := planeValid_eq x0 y0 x1 y1 q xs.length c (H ++ [some ⟨[.int .i64 x0, .int .i64 y0, .int .i64 x1, .int .i64 y1, .slice q xs.length c], false, 0⟩] ++ [some ⟨[.int .i64 d, .bool s, .int .i64 x, .int .i64 y], false, 0⟩] ++ [some ⟨[.int .i64 0, .int .i64 0, .int .i64 0, .int .i64 0, .slice none 0 0], false, 0⟩])
  unfold usf
  cases hv : pv x0 y0 x1 y1 xs.length with
  | false =>
    rw [hv] at e1
    refine ⟨none, 0, ?J1, fun R K => ?M1, .inl rfl, ?O1⟩
    case M1 =>
      unfold color_Unshift color_Unshift_b
      simp (disch := (first | assumption | omega | exact Nat.le_of_ble_eq_true rfl | (simp only [List.length_append, List.length_cons, List.length_nil]; omega))) only [e1, Bool.not_false, hal_x, hmk_x, hcell_new, hcell_old, hidx_x, hfad_x, hnil_x, ldI_x, ldB_x, ldP_x, ldL_x, pad_some, get0, gets, ik64, ik8, ik32, iku64, cond_true, cond_false, hst_new, hst_old, splice_cc, splice_nn, one_n, one_i, one_b, one_p, one_s, one_t, Int.toNat_zero, Int.toNat_one, tn2, tn3, Nat.mul_one, Nat.zero_add, Nat.zero_mul, Nat.add_zero]
      rfl
    case O1 => simp only [List.append_assoc]; exact Old.app _ _
  | true =>
    rw [hv] at e1
    cases hd : dp d with
    | false =>
      refine ⟨none, 0, ?J2, fun R K => ?M2, .inl rfl, ?O2⟩
      case M2 =>
        unfold color_Unshift color_Unshift_b
        simp (disch := (first | assumption | omega | exact Nat.le_of_ble_eq_true rfl | (simp only [List.length_append, List.length_cons, List.length_nil]; omega))) only [e1, Bool.not_true, Bool.not_false, deep_eq, hd, hal_x, hmk_x, hcell_new, hcell_old, hidx_x, hfad_x, hnil_x, ldI_x, ldB_x, ldP_x, ldL_x, pad_some, get0, gets, ik64, ik8, ik32, iku64, cond_true, cond_false, hst_new, hst_old, splice_cc, splice_nn, one_n, one_i, one_b, one_p, one_s, one_t, Int.toNat_zero, Int.toNat_one, tn2, tn3, Nat.mul_one, Nat.zero_add, Nat.zero_mul, Nat.add_zero]
        rfl
      case O2 => simp only [List.append_assoc]; exact Old.app _ _
    | true =>
      have hall : ∃ HL br bp bd, Old H.length H HL ∧ H.length ≤ bd ∧ H.length ≤ br ∧ bd ≠ br ∧ bd ≠ bp ∧ bp ≠ br ∧ Owns HL br zero5 0 ∧ Sees HL bp (pl5 x0 y0 x1 y1 (some ⟨bd, 0, none⟩) xs.length xs.length) ∧ OwnV HL bd xs.length (fun _ => .int .i64 0) ∧
          ∀ (R : Type) (K : Int → Int → Int → Int → Option Addr → Nat → Nat → Int → Heap → Option R), color_Unshift k x0 y0 x1 y1 q xs.length c d s x y H K = color_Unshift_l0 k (fun p247 p248 H249 =>
            ldI .i64 H249 (pad p248 0) fun n250 => ldI .i64 H249 (pad p248 1) fun n251 => ldI .i64 H249 (pad p248 2) fun n252 => ldI .i64 H249 (pad p248 3) fun n253 => ldL H249 (pad p248 4) fun q254 l255 c256 =>
            hst H249 p247 [.int .i64 n250, .int .i64 n251, .int .i64 n252, .int .i64 n253, .slice q254 l255 c256] fun H257 =>
            ldI .i64 H257 (pad p247 0) fun n258 => ldI .i64 H257 (pad p247 1) fun n259 => ldI .i64 H257 (pad p247 2) fun n260 => ldI .i64 H257 (pad p247 3) fun n261 => ldL H257 (pad p247 4) fun q262 l263 c264 => K n258 n259 n260 n261 q262 l263 c264 0 H257)
            k (some ⟨br, 0, none⟩) (lo d s) (hi d s) (off d s) (some ⟨bp, 0, none⟩) q xs.length c ((xs.length : Nat) : Int) 0 HL := by
        obtain ⟨J2, e2⟩ := Range_eq d s x y (H ++ [some ⟨[.int .i64 x0, .int .i64 y0, .int .i64 x1, .int .i64 y1, .slice q xs.length c], false, 0⟩] ++ [some ⟨[.int .i64 d, .bool s, .int .i64 x, .int .i64 y], false, 0⟩] ++ [some ⟨[.int .i64 0, .int .i64 0, .int .i64 0, .int .i64 0, .slice none 0 0], false, 0⟩] ++ J1)
        obtain ⟨J3, e3⟩ := offset_eq hd s x y (H ++ [some ⟨[.int .i64 x0, .int .i64 y0, .int .i64 x1, .int .i64 y1, .slice q xs.length c], false, 0⟩] ++ [some ⟨[.int .i64 d, .bool s, .int .i64 x, .int .i64 y], false, 0⟩] ++ [some ⟨[.int .i64 0, .int .i64 0, .int .i64 0, .int .i64 0, .slice none 0 0], false, 0⟩] ++ J1 ++ J2)
        refine ⟨?HL, ?br, ?bp, ?bd, ?o1, ?o2, ?o3, ?o5, ?o6, ?o7, ?s2, ?s3, ?s4, fun R K => ?main⟩
        case main =>
          unfold color_Unshift color_Unshift_b
          simp (disch := (first | assumption | omega | exact Nat.le_of_ble_eq_true rfl | (simp only [List.length_append, List.length_cons, List.length_nil]; omega))) only [e1, Bool.not_true, deep_eq, hd, e2, e3, hal_x, hmk_x, hcell_new, hcell_old, hidx_x, hfad_x, hnil_x, ldI_x, ldB_x, ldP_x, ldL_x, pad_some, get0, gets, ik64, ik8, ik32, iku64, cond_true, cond_false, hst_new, hst_old, splice_cc, splice_nn, one_n, one_i, one_b, one_p, one_s, one_t, Int.toNat_zero, Int.toNat_one, tn2, tn3, Nat.mul_one, Nat.zero_add, Nat.zero_mul, Nat.add_zero]
          rfl
        case s3 =>
          refine ⟨⟨pl5 x0 y0 x1 y1 (some ⟨?bd, 0, none⟩) xs.length xs.length, false, 0⟩, ?_, rfl⟩
          unfold pl5
          simp (disch := (first | assumption | omega | exact Nat.le_of_ble_eq_true rfl | (simp only [List.length_append, List.length_cons, List.length_nil]; omega))) only [hblk_new, hblk_old]
          rfl
        case o1 => simp only [List.append_assoc]; exact Old.app _ _
        case o2 => simp only [List.length_append, List.length_cons, List.length_nil]; omega
        case o3 => simp only [List.length_append, List.length_cons, List.length_nil]; omega
        case o5 => simp only [List.length_append, List.length_cons, List.length_nil, ne_eq]; omega
        case o6 => simp only [List.length_append, List.length_cons, List.length_nil, ne_eq]; omega
        case o7 => simp only [List.length_append, List.length_cons, List.length_nil, ne_eq]; omega
        case s2 => unfold Owns zero5; simp (disch := (first | assumption | omega | exact Nat.le_of_ble_eq_true rfl | (simp only [List.length_append, List.length_cons, List.length_nil]; omega))) only [hblk_new, hblk_old]
        case s4 => unfold OwnV Owns; simp (disch := (first | assumption | omega | exact Nat.le_of_ble_eq_true rfl | (simp only [List.length_append, List.length_cons, List.length_nil]; omega))) only [hblk_new, hblk_old]
      obtain ⟨HL, br, bp, bd, o1, o2, o3, o5, o6, o7, s2, s3, s4, em⟩ := hall
      have hb : ints xs = [] ∨ Below H.length q := by
        rcases hS with h | ⟨b, o, full, rfl, h1, _⟩
        · exact .inl h
        · exact .inr fun a ha => by cases ha; exact h1.lt
      obtain ⟨H', p1, p2, r2, r3, r4⟩ := unshift_loop (d := d) (s := s) k c o5 o6 o2 o3 hb (by omega) xs.length k 0 (by omega) (by omega) HL (hS.keep o1) s2 s3 (s4.congr fun j hj => by unfold done; rw [if_neg (by omega)]) o1.1
      simp only [Int.natCast_zero] at r2
      obtain ⟨H2, e3, O2, b2, n2⟩ := p2.st (vs := pl5 x0 y0 x1 y1 (some ⟨bd, 0, none⟩) xs.length xs.length) rfl rfl
      have mp := r3.cell
      have mr := O2.sees.cell
      unfold pl5 at mp mr e3
      refine ⟨some ⟨bd, 0, none⟩, xs.length, H2, fun R K => ?_, ?_, o1.trans (p1.trans (b2.old o3 (by have := p1.1; have := o1.1; omega)))⟩
      · rw [em, r2]
        simp (disch := (first | assumption | omega | exact Nat.le_of_ble_eq_true rfl | (simp only [List.length_append, List.length_cons, List.length_nil]; omega))) only [mp, mr, e3, hal_x, hmk_x, hcell_new, hcell_old, hidx_x, hfad_x, hnil_x, ldI_x, ldB_x, ldP_x, ldL_x, pad_some, get0, gets, ik64, ik8, ik32, iku64, cond_true, cond_false, hst_new, hst_old, splice_cc, splice_nn, one_n, one_i, one_b, one_p, one_s, one_t, Int.toNat_zero, Int.toNat_one, tn2, tn3, Nat.mul_one, Nat.zero_add, Nat.zero_mul, Nat.add_zero]
        simp only [List.length_map]
        rfl
      · have := (r4.but b2 o5).sees.shows
        rw [done_all] at this
        exact this
end Go.Proofs.Ytoeoolnkndkefaa.Sh
/- Color: Shift and Unshift, the reference's. -/
set_option linter.unusedVariables false
set_option linter.unusedSimpArgs false
namespace Go.Proofs.Ytoeoolnkndkefaa.Sh
open Go.Proofs.Ytoeoolnkndkefaa.FW
section
variable {d : Int} {s : Bool} {x y x0 y0 x1 y1 : Int}
/-- One more sample behind a row that grows within a plane of one's own. -/
theorem grow1 {N bo : Nat} {H : Heap} {q : Option Addr} {c : Nat} {ys : List Int} (hB : Bld N 1 H q ys.length c (ints ys)) (hO : Owns H bo (pl5 x0 y0 x1 y1 q ys.length c) 0) (hb : bo < N) (hN : N ≤ H.length) (hl : ys.length ≤ 2000000) (v : Int) :
    ∃ q' H1 H2, (∀ (R : Type) (K : Option Addr → Nat → Nat → Heap → Option R), happS 1 8 (H ++ [some ⟨[.int .i64 v], false, 0⟩]) q ys.length c (some ⟨H.length, 0, none⟩) 1 K = K q' (ys.length + 1) unk H1) ∧ (∀ (R : Type) (K : Heap → Option R), hst1 H1 (some ⟨bo, 4, none⟩) (.slice q' (ys.length + 1) unk) K = K H2) ∧
      Bld N 1 H2 q' (ys ++ [v]).length unk (ints (ys ++ [v])) ∧ Owns H2 bo (pl5 x0 y0 x1 y1 q' (ys ++ [v]).length unk) 0 ∧ Old bo H H2 ∧ N ≤ H2.length ∧ (∀ i, i < N → i ≠ bo → hblk H2 i = hblk H i) := by
  have hN1 : N ≤ (H ++ [some (⟨[.int .i64 v], false, 0⟩ : Blk)]).length := by simp; omega
  have hB1 : Bld N 1 (H ++ [some ⟨[.int .i64 v], false, 0⟩]) q ys.length c (ints ys) := hB.old (Old.app H _) (Nat.le_refl _)
  have hsh : Shows (H ++ [some (⟨[.int .i64 v], false, 0⟩ : Blk)]) (some ⟨H.length, 0, none⟩) [.int .i64 v] := Sees.shows ⟨_, hblk_new H _, rfl⟩
  obtain ⟨q', H1, e1, b1, o1, n1⟩ := hB1.app (bytes := 8) (n := 1) hN1 hsh rfl (by omega) (by omega)
  have o01 : Old N H H1 := ((Old.app H _).mono hN).trans o1
  have hO1 := hO.old o01 hb
  obtain ⟨H2, e2, O2, b2, n2⟩ := hO1.st1 (o := 4) (by simp [pl5]) (.slice q' (ys.length + 1) unk)
  refine ⟨q', H1, H2, e1, e2, ?_, ?_, (o01.mono (by omega)).trans (b2.old (Nat.le_refl _) (by omega)), by omega, fun i hi hne => ?_⟩
  · have := b1.but b2 hb
    rw [show ints (ys ++ [v]) = ints ys ++ [.int .i64 v] from by simp [ints], List.length_append]
    exact this
  · rw [List.length_append]; exact O2
  · rw [b2.2 i (by omega) hne, o01.2 i hi]
theorem shiftR_loop (k : Nat) (hk : 70 < k) {M : Nat} {xs : List Int} {q : Option Addr} (c : Nat) {ba bc br bo : Nat} (hd : dp d = true) (ha : ba ≠ bo) (hc : bc ≠ bo) (hr : br ≠ bo) (ma : ba < M) (mc : bc < M) (mr : br < M) (mo : bo < M) {N : Nat} (nN : N ≤ bo) (nr : N ≤ br) (hq : ints xs = [] ∨ Below N q) (hl : xs.length ≤ 2000000) :
    ∀ (m n i : Nat), m < n → xs.length = i + m → ∀ (H : Heap) (q' : Option Addr) (c' : Nat) (ys : List Int), ys.length = i → Shows H q (ints xs) → Sees H ba (pl5 x0 y0 x1 y1 q xs.length c) → Sees H bc (cmp4 d s x y) → Owns H br zero5 0 → Owns H bo (pl5 x0 y0 x1 y1 q' ys.length c') 0 → Bld M 1 H q' ys.length c' (ints ys) → M ≤ H.length →
    ∃ H', Old N H H' ∧ Owns H' br zero5 0 ∧
      (((xs.drop i).any (bad d s) = false ∧ ∃ q2 c2, (∀ (R : Type) (KE : Option Addr → Option Addr → Heap → Option R) (KR : Option Addr → Int → Heap → Option R), R07_Shift_l1 k KE KR n (some ⟨ba, 0, none⟩) (some ⟨bc, 0, none⟩) (some ⟨br, 0, none⟩) (lo d s) (hi d s) (some ⟨bo, 0, none⟩) (i : Int) H = KE (some ⟨br, 0, none⟩) (some ⟨bo, 0, none⟩) H') ∧
          Owns H' bo (pl5 x0 y0 x1 y1 q2 xs.length c2) 0 ∧ Bld M 1 H' q2 xs.length c2 (ints (ys ++ (xs.drop i).map (fun v => W (v - off d s))))) ∨
       ((xs.drop i).any (bad d s) = true ∧ ∀ (R : Type) (KE : Option Addr → Option Addr → Heap → Option R) (KR : Option Addr → Int → Heap → Option R), R07_Shift_l1 k KE KR n (some ⟨ba, 0, none⟩) (some ⟨bc, 0, none⟩) (some ⟨br, 0, none⟩) (lo d s) (hi d s) (some ⟨bo, 0, none⟩) (i : Int) H = KR (some ⟨br, 0, none⟩) 2 H')) := by
  intro m
  induction m with
  | zero =>
    intro n i hn hi' H q' c' ys hys hS hA hC hR hO hB hM
    obtain ⟨n, rfl⟩ : ∃ n', n = n' + 1 := ⟨n - 1, by omega⟩
    have hi0 : xs.length = i := by omega
    have hyx : ys.length = xs.length := by omega
    rw [hyx] at hO hB
    refine ⟨H, .refl _ _, hR, .inl ⟨by rw [List.drop_of_length_le (by omega)]; rfl, q', c', fun R KE KR => ?_, hO, by rw [List.drop_of_length_le (by omega)]; simpa using hB⟩⟩
    have ed : decide ((i : Int) < ((xs.length : Nat) : Int)) = false := decide_eq_false (by omega)
    have ma := hA.cell
    unfold pl5 at ma
    simp only [R07_Shift_l1, R07_Shift_l1_b]
    simp (disch := (first | assumption | omega | exact Nat.le_of_ble_eq_true rfl | (simp only [List.length_append, List.length_cons, List.length_nil]; omega))) only [ma, ed, hal_x, hmk_x, hcell_new, hcell_old, hidx_x, hfad_x, hnil_x, ldI_x, ldB_x, ldP_x, ldL_x, pad_some, get0, gets, ik64, ik8, ik32, iku64, cond_true, cond_false, hst_new, hst_old, splice_cc, splice_nn, one_n, one_i, one_b, one_p, one_s, one_t, Int.toNat_zero, Int.toNat_one, tn2, tn3, Nat.mul_one, Nat.zero_add, Nat.zero_mul, Nat.add_zero]
  | succ m ih =>
    intro n i hn hi' H q' c' ys hys hS hA hC hR hO hB hM
    obtain ⟨n, rfl⟩ : ∃ n', n = n' + 1 := ⟨n - 1, by omega⟩
    have hlt : i < xs.length := by omega
    have ed : decide ((i : Int) < ((xs.length : Nat) : Int)) = true := decide_eq_true (by omega)
    obtain ⟨p, e1, l1⟩ := int_at hS hlt
    have hdr : xs.drop i = xs.getD i 0 :: xs.drop (i + 1) := by
      rw [List.drop_eq_getElem_cons hlt, List.getD_eq_getElem?_getD, List.getElem?_eq_getElem hlt]; rfl
    rw [hdr, List.any_cons]
    generalize hv : xs.getD i 0 = v at l1
    have ma' := hA.cell
    unfold pl5 at ma'
    cases hb : bad d s v with
    | true =>
      obtain ⟨H', e2, O2, b2, n2⟩ := hR.st (vs := zero5) rfl rfl
      refine ⟨H', b2.old nr (by omega), O2, .inr ⟨rfl, fun R KE KR => ?_⟩⟩
      unfold zero5 at e2
      unfold bad at hb
      rw [Bool.or_eq_true, decide_eq_true_eq, decide_eq_true_eq] at hb
      simp only [R07_Shift_l1, R07_Shift_l1_b, R07_Shift_p2, R07_Shift_p2_b]
      by_cases c1 : v < lo d s
      · have d1 : decide (v < lo d s) = true := decide_eq_true c1
        simp (disch := (first | assumption | omega | exact Nat.le_of_ble_eq_true rfl | (simp only [List.length_append, List.length_cons, List.length_nil]; omega))) only [ma', ed, e1, l1, d1, e2, hal_x, hmk_x, hcell_new, hcell_old, hidx_x, hfad_x, hnil_x, ldI_x, ldB_x, ldP_x, ldL_x, pad_some, get0, gets, ik64, ik8, ik32, iku64, cond_true, cond_false, hst_new, hst_old, splice_cc, splice_nn, one_n, one_i, one_b, one_p, one_s, one_t, Int.toNat_zero, Int.toNat_one, tn2, tn3, Nat.mul_one, Nat.zero_add, Nat.zero_mul, Nat.add_zero]
      · have d1 : decide (v < lo d s) = false := decide_eq_false c1
        have d2 : decide (v > hi d s) = true := decide_eq_true (by omega)
        simp (disch := (first | assumption | omega | exact Nat.le_of_ble_eq_true rfl | (simp only [List.length_append, List.length_cons, List.length_nil]; omega))) only [ma', ed, e1, l1, d1, d2, e2, hal_x, hmk_x, hcell_new, hcell_old, hidx_x, hfad_x, hnil_x, ldI_x, ldB_x, ldP_x, ldL_x, pad_some, get0, gets, ik64, ik8, ik32, iku64, cond_true, cond_false, hst_new, hst_old, splice_cc, splice_nn, one_n, one_i, one_b, one_p, one_s, one_t, Int.toNat_zero, Int.toNat_one, tn2, tn3, Nat.mul_one, Nat.zero_add, Nat.zero_mul, Nat.add_zero]
    | false =>
      obtain ⟨J, e3⟩ := offsetR_eq k hk hd s x y (roH H)
      obtain ⟨q1, H1, H2, e4, e5, B2, O2, o2, n2, s2⟩ := grow1 hB hO mo hM (by omega) (W (v - off d s))
      have keep : ∀ {b cs}, b ≠ bo → b < M → Sees H b cs → Sees H2 b cs := fun {b cs} hne hlt h => by
        obtain ⟨B, h1, h2⟩ := h
        exact ⟨B, by rw [s2 b hlt hne]; exact h1, h2⟩
      have hR2 : Owns H2 br zero5 0 := by unfold Owns; rw [s2 br mr hr]; exact hR
      have oN : Old N H H2 := o2.mono nN
      obtain ⟨H', o', R', h'⟩ := ih n (i + 1) (by omega) (by omega) H2 q1 unk (ys ++ [W (v - off d s)]) (by simp [hys]) (hS.old oN hq) (keep ha ma hA) (keep hc mc hC) hR2 O2 B2 n2
      unfold bad at hb
      rw [Bool.or_eq_false_iff] at hb
      have mc' := hC.cell
      have mo' := hO.sees.cell
      unfold cmp4 at mc'
      unfold pl5 at mo'
      rw [hys] at mo' e4 e5
      unfold W at e4
      have ew : IntKind.wrap .i64 ((i : Int) + 1) = ((i + 1 : Nat) : Int) := by rw [w64 (by omega) (by omega)]; rfl
      have step : ∀ (R : Type) (KE : Option Addr → Option Addr → Heap → Option R) (KR : Option Addr → Int → Heap → Option R), R07_Shift_l1 k KE KR (n + 1) (some ⟨ba, 0, none⟩) (some ⟨bc, 0, none⟩) (some ⟨br, 0, none⟩) (lo d s) (hi d s) (some ⟨bo, 0, none⟩) (i : Int) H = R07_Shift_l1 k KE KR n (some ⟨ba, 0, none⟩) (some ⟨bc, 0, none⟩) (some ⟨br, 0, none⟩) (lo d s) (hi d s) (some ⟨bo, 0, none⟩) ((i + 1 : Nat) : Int) H2 := fun R KE KR => by
        simp only [R07_Shift_l1, R07_Shift_l1_b, R07_Shift_p2, R07_Shift_p2_b]
        simp (disch := (first | assumption | omega | exact Nat.le_of_ble_eq_true rfl | (simp only [List.length_append, List.length_cons, List.length_nil]; omega))) only [ma', ed, e1, l1, hb.1, hb.2, mo', mc', e3, e4, e5, ew, hal_x, hmk_x, hcell_new, hcell_old, hidx_x, hfad_x, hnil_x, ldI_x, ldB_x, ldP_x, ldL_x, pad_some, get0, gets, ik64, ik8, ik32, iku64, cond_true, cond_false, hst_new, hst_old, splice_cc, splice_nn, one_n, one_i, one_b, one_p, one_s, one_t, Int.toNat_zero, Int.toNat_one, tn2, tn3, Nat.mul_one, Nat.zero_add, Nat.zero_mul, Nat.add_zero]
      refine ⟨H', oN.trans o', R', ?_⟩
      rcases h' with ⟨a1, q2, c2, a2, a3, a4⟩ | ⟨a1, a2⟩
      · refine .inl ⟨by rw [Bool.false_or]; exact a1, q2, c2, fun R KE KR => (step R KE KR).trans (a2 R KE KR), a3, ?_⟩
        rw [List.append_assoc, hv] at *
        exact a4
      · exact .inr ⟨by rw [Bool.false_or]; exact a1, fun R KE KR => (step R KE KR).trans (a2 R KE KR)⟩
theorem unshiftR_loop (k : Nat) (hk : 70 < k) {M : Nat} {xs : List Int} {q : Option Addr} (c : Nat) {ba bc br bo : Nat} (hd : dp d = true) (ha : ba ≠ bo) (hc : bc ≠ bo) (hr : br ≠ bo) (ma : ba < M) (mc : bc < M) (mr : br < M) (mo : bo < M) {N : Nat} (nN : N ≤ bo) (nr : N ≤ br) (hq : ints xs = [] ∨ Below N q) (hl : xs.length ≤ 2000000) :
    ∀ (m n i : Nat), m < n → xs.length = i + m → ∀ (H : Heap) (q' : Option Addr) (c' : Nat) (ys : List Int), ys.length = i → Shows H q (ints xs) → Sees H ba (pl5 x0 y0 x1 y1 q xs.length c) → Sees H bc (cmp4 d s x y) → Owns H br zero5 0 → Owns H bo (pl5 x0 y0 x1 y1 q' ys.length c') 0 → Bld M 1 H q' ys.length c' (ints ys) → M ≤ H.length →
    ∃ H', Old N H H' ∧ Owns H' br zero5 0 ∧ ∃ q2 c2, (∀ (R : Type) (KE : Option Addr → Option Addr → Heap → Option R), R07_Unshift_l1 k KE n (some ⟨ba, 0, none⟩) (some ⟨bc, 0, none⟩) (some ⟨br, 0, none⟩) (lo d s) (hi d s) (some ⟨bo, 0, none⟩) (i : Int) H = KE (some ⟨br, 0, none⟩) (some ⟨bo, 0, none⟩) H') ∧
          Owns H' bo (pl5 x0 y0 x1 y1 q2 xs.length c2) 0 ∧ Bld M 1 H' q2 xs.length c2 (ints (ys ++ (xs.drop i).map (unv d s))) := by
  intro m
  induction m with
  | zero =>
    intro n i hn hi' H q' c' ys hys hS hA hC hR hO hB hM
    obtain ⟨n, rfl⟩ : ∃ n', n = n' + 1 := ⟨n - 1, by omega⟩
    have hi0 : xs.length = i := by omega
    have hyx : ys.length = xs.length := by omega
    rw [hyx] at hO hB
    refine ⟨H, .refl _ _, hR, q', c', fun R KE => ?_, hO, by rw [List.drop_of_length_le (by omega)]; simpa using hB⟩
    have ed : decide ((i : Int) < ((xs.length : Nat) : Int)) = false := decide_eq_false (by omega)
    have ma := hA.cell
    unfold pl5 at ma
    simp only [R07_Unshift_l1, R07_Unshift_l1_b]
    simp (disch := (first | assumption | omega | exact Nat.le_of_ble_eq_true rfl | (simp only [List.length_append, List.length_cons, List.length_nil]; omega))) only [ma, ed, hal_x, hmk_x, hcell_new, hcell_old, hidx_x, hfad_x, hnil_x, ldI_x, ldB_x, ldP_x, ldL_x, pad_some, get0, gets, ik64, ik8, ik32, iku64, cond_true, cond_false, hst_new, hst_old, splice_cc, splice_nn, one_n, one_i, one_b, one_p, one_s, one_t, Int.toNat_zero, Int.toNat_one, tn2, tn3, Nat.mul_one, Nat.zero_add, Nat.zero_mul, Nat.add_zero]
  | succ m ih =>
    intro n i hn hi' H q' c' ys hys hS hA hC hR hO hB hM
    obtain ⟨n, rfl⟩ : ∃ n', n = n' + 1 := ⟨n - 1, by omega⟩
    have hlt : i < xs.length := by omega
    have ed : decide ((i : Int) < ((xs.length : Nat) : Int)) = true := decide_eq_true (by omega)
    obtain ⟨p, e1, l1⟩ := int_at hS hlt
    have hdr : xs.drop i = xs.getD i 0 :: xs.drop (i + 1) := by
      rw [List.drop_eq_getElem_cons hlt, List.getD_eq_getElem?_getD, List.getElem?_eq_getElem hlt]; rfl
    rw [hdr]
    generalize hv : xs.getD i 0 = v at l1
    have ma' := hA.cell
    unfold pl5 at ma'
    obtain ⟨J, e3⟩ := offsetR_eq k hk hd s x y (roH H)
    obtain ⟨q1, H1, H2, e4, e5, B2, O2, o2, n2, s2⟩ := grow1 hB hO mo hM (by omega) (unv d s v)
    have keep : ∀ {b cs}, b ≠ bo → b < M → Sees H b cs → Sees H2 b cs := fun {b cs} hne hlt h => by
      obtain ⟨B, h1, h2⟩ := h
      exact ⟨B, by rw [s2 b hlt hne]; exact h1, h2⟩
    have hR2 : Owns H2 br zero5 0 := by unfold Owns; rw [s2 br mr hr]; exact hR
    have oN : Old N H H2 := o2.mono nN
    obtain ⟨H', o', R', q2, c2, a2, a3, a4⟩ := ih n (i + 1) (by omega) (by omega) H2 q1 unk (ys ++ [unv d s v]) (by simp [hys]) (hS.old oN hq) (keep ha ma hA) (keep hc mc hC) hR2 O2 B2 n2
    have mc' := hC.cell
    have mo' := hO.sees.cell
    unfold cmp4 at mc'
    unfold pl5 at mo'
    rw [hys] at mo' e4 e5
    unfold unv W at e4
    have ew : IntKind.wrap .i64 ((i : Int) + 1) = ((i + 1 : Nat) : Int) := by rw [w64 (by omega) (by omega)]; rfl
    refine ⟨H', oN.trans o', R', q2, c2, fun R KE => ?_, a3, ?_⟩
    · refine Eq.trans ?_ (a2 R KE)
      simp only [R07_Unshift_l1, R07_Unshift_l1_b]
      simp (disch := (first | assumption | omega | exact Nat.le_of_ble_eq_true rfl | (simp only [List.length_append, List.length_cons, List.length_nil]; omega))) only [ma', ed, e1, l1, mc', mo', e3, e4, e5, ew, hal_x, hmk_x, hcell_new, hcell_old, hidx_x, hfad_x, hnil_x, ldI_x, ldB_x, ldP_x, ldL_x, pad_some, get0, gets, ik64, ik8, ik32, iku64, cond_true, cond_false, hst_new, hst_old, splice_cc, splice_nn, one_n, one_i, one_b, one_p, one_s, one_t, Int.toNat_zero, Int.toNat_one, tn2, tn3, Nat.mul_one, Nat.zero_add, Nat.zero_mul, Nat.add_zero]
    · rw [List.append_assoc] at a4
      exact a4
end
set_option maxHeartbeats 4000000 in
theorem ShiftR_eq (k : Nat) (hk : 500 < k) {H : Heap} {q : Option Addr} {xs : List Int} (hS : Shows H q (ints xs)) (hl : xs.length ≤ 400) (x0 y0 x1 y1 : Int) (c : Nat) (d : Int) (s : Bool) (x y : Int) :
    ∃ q' c' H', (∀ (R : Type) (K : Int → Int → Int → Int → Option Addr → Nat → Nat → Int → Heap → Option R), R07_Shift k x0 y0 x1 y1 q xs.length c d s x y H K = K (zz (shf x0 y0 x1 y1 xs d s).1 x0) (zz (shf x0 y0 x1 y1 xs d s).1 y0) (zz (shf x0 y0 x1 y1 xs d s).1 x1) (zz (shf x0 y0 x1 y1 xs d s).1 y1) q' (shf x0 y0 x1 y1 xs d s).2.length c' (shf x0 y0 x1 y1 xs d s).1 H') ∧ Shows H' q' (ints (shf x0 y0 x1 y1 xs d s).2) ∧ Old H.length H H' := by
  obtain ⟨J1, e1⟩ := planeValidR_eq x0 y0 x1 y1 q xs.length c (H ++ [some ⟨[.int .i64 x0, .int .i64 y0, .int .i64 x1, .int .i64 y1, .slice q xs.length c], false, 0⟩] ++ [some ⟨[.int .i64 d, .bool s, .int .i64 x, .int .i64 y], false, 0⟩] ++ [some ⟨[.int .i64 0, .int .i64 0, .int .i64 0, .int .i64 0, .slice none 0 0], false, 0⟩])
  unfold shf
  cases hv : pv x0 y0 x1 y1 xs.length with
  | false =>
    rw [hv] at e1
    refine ⟨none, 0, ?J1, fun R K => ?M1, .inl rfl, ?O1⟩
    case M1 =>
      unfold R07_Shift R07_Shift_b
      simp (disch := (first | assumption | omega | exact Nat.le_of_ble_eq_true rfl | (simp only [List.length_append, List.length_cons, List.length_nil]; omega))) only [e1, Bool.not_false, hal_x, hmk_x, hcell_new, hcell_old, hidx_x, hfad_x, hnil_x, ldI_x, ldB_x, ldP_x, ldL_x, pad_some, get0, gets, ik64, ik8, ik32, iku64, cond_true, cond_false, hst_new, hst_old, splice_cc, splice_nn, one_n, one_i, one_b, one_p, one_s, one_t, Int.toNat_zero, Int.toNat_one, tn2, tn3, Nat.mul_one, Nat.zero_add, Nat.zero_mul, Nat.add_zero]
      rfl
    case O1 => simp only [List.append_assoc]; exact Old.app _ _
  | true =>
    rw [hv] at e1
    cases hd : dp d with
    | false =>
      by_cases c1 : d < 1
      · have k1 : decide (d < 1) = true := decide_eq_true c1
        refine ⟨none, 0, ?J2, fun R K => ?M2, .inl rfl, ?O2⟩
        case M2 =>
          unfold R07_Shift R07_Shift_b R07_Shift_p0 R07_Shift_p0_b
          simp (disch := (first | assumption | omega | exact Nat.le_of_ble_eq_true rfl | (simp only [List.length_append, List.length_cons, List.length_nil]; omega))) only [e1, Bool.not_true, Bool.not_false, k1, hal_x, hmk_x, hcell_new, hcell_old, hidx_x, hfad_x, hnil_x, ldI_x, ldB_x, ldP_x, ldL_x, pad_some, get0, gets, ik64, ik8, ik32, iku64, cond_true, cond_false, hst_new, hst_old, splice_cc, splice_nn, one_n, one_i, one_b, one_p, one_s, one_t, Int.toNat_zero, Int.toNat_one, tn2, tn3, Nat.mul_one, Nat.zero_add, Nat.zero_mul, Nat.add_zero]
          rfl
        case O2 => simp only [List.append_assoc]; exact Old.app _ _
      · have k1 : decide (d < 1) = false := decide_eq_false c1
        have k2 : decide (d > 16) = true := by
          unfold dp at hd
          simp only [Bool.and_eq_false_iff, decide_eq_false_iff_not] at hd
          exact decide_eq_true (by omega)
        refine ⟨none, 0, ?J3, fun R K => ?M3, .inl rfl, ?O3⟩
        case M3 =>
          unfold R07_Shift R07_Shift_b R07_Shift_p0 R07_Shift_p0_b
          simp (disch := (first | assumption | omega | exact Nat.le_of_ble_eq_true rfl | (simp only [List.length_append, List.length_cons, List.length_nil]; omega))) only [e1, Bool.not_true, Bool.not_false, k1, k2, hal_x, hmk_x, hcell_new, hcell_old, hidx_x, hfad_x, hnil_x, ldI_x, ldB_x, ldP_x, ldL_x, pad_some, get0, gets, ik64, ik8, ik32, iku64, cond_true, cond_false, hst_new, hst_old, splice_cc, splice_nn, one_n, one_i, one_b, one_p, one_s, one_t, Int.toNat_zero, Int.toNat_one, tn2, tn3, Nat.mul_one, Nat.zero_add, Nat.zero_mul, Nat.add_zero]
          rfl
        case O3 => simp only [List.append_assoc]; exact Old.app _ _
    | true =>
      have hdp := dp_of hd
      have k1 : decide (d < 1) = false := decide_eq_false (by omega)
      have k2 : decide (d > 16) = false := decide_eq_false (by omega)
      have hall : ∃ HL ba bc br bo, Old H.length H HL ∧ ba < HL.length ∧ bc < HL.length ∧ H.length ≤ br ∧ br < HL.length ∧ H.length ≤ bo ∧ bo < HL.length ∧ ba ≠ bo ∧ bc ≠ bo ∧ br ≠ bo ∧ Sees HL ba (pl5 x0 y0 x1 y1 q xs.length c) ∧ Sees HL bc (cmp4 d s x y) ∧ Owns HL br zero5 0 ∧ Owns HL bo (pl5 x0 y0 x1 y1 none 0 0) 0 ∧
          ∀ (R : Type) (K : Int → Int → Int → Int → Option Addr → Nat → Nat → Int → Heap → Option R), R07_Shift k x0 y0 x1 y1 q xs.length c d s x y H K = R07_Shift_l1 k (fun p247 p248 H249 =>
            ldI .i64 H249 (pad p248 0) fun n250 => ldI .i64 H249 (pad p248 1) fun n251 => ldI .i64 H249 (pad p248 2) fun n252 => ldI .i64 H249 (pad p248 3) fun n253 => ldL H249 (pad p248 4) fun q254 l255 c256 =>
            hst H249 p247 [.int .i64 n250, .int .i64 n251, .int .i64 n252, .int .i64 n253, .slice q254 l255 c256] fun H257 =>
            ldI .i64 H257 (pad p247 0) fun n258 => ldI .i64 H257 (pad p247 1) fun n259 => ldI .i64 H257 (pad p247 2) fun n260 => ldI .i64 H257 (pad p247 3) fun n261 => ldL H257 (pad p247 4) fun q262 l263 c264 => K n258 n259 n260 n261 q262 l263 c264 0 H257)
            (fun p265 n266 H267 => ldI .i64 H267 (pad p265 0) fun n268 => ldI .i64 H267 (pad p265 1) fun n269 => ldI .i64 H267 (pad p265 2) fun n270 => ldI .i64 H267 (pad p265 3) fun n271 => ldL H267 (pad p265 4) fun q272 l273 c274 => K n268 n269 n270 n271 q272 l273 c274 n266 H267)
            k (some ⟨ba, 0, none⟩) (some ⟨bc, 0, none⟩) (some ⟨br, 0, none⟩) (lo d s) (hi d s) (some ⟨bo, 0, none⟩) 0 HL := by
        obtain ⟨J2, e2⟩ := RangeR_eq k (by omega) d s x y (H ++ [some ⟨[.int .i64 x0, .int .i64 y0, .int .i64 x1, .int .i64 y1, .slice q xs.length c], false, 0⟩] ++ [some ⟨[.int .i64 d, .bool s, .int .i64 x, .int .i64 y], false, 0⟩] ++ [some ⟨[.int .i64 0, .int .i64 0, .int .i64 0, .int .i64 0, .slice none 0 0], false, 0⟩] ++ J1)
        refine ⟨?HL, ?ba, ?bc, ?br, ?bo, ?o1, ?o2, ?o3, ?o4, ?o5, ?o6, ?o7, ?o8, ?o9, ?oa, ?s1, ?s2, ?s3, ?s4, fun R K => ?main⟩
        case main =>
          unfold R07_Shift R07_Shift_b R07_Shift_p0 R07_Shift_p0_b
          simp (disch := (first | assumption | omega | exact Nat.le_of_ble_eq_true rfl | (simp only [List.length_append, List.length_cons, List.length_nil]; omega))) only [e1, Bool.not_true, k1, k2, e2, hal_x, hmk_x, hcell_new, hcell_old, hidx_x, hfad_x, hnil_x, ldI_x, ldB_x, ldP_x, ldL_x, pad_some, get0, gets, ik64, ik8, ik32, iku64, cond_true, cond_false, hst_new, hst_old, splice_cc, splice_nn, one_n, one_i, one_b, one_p, one_s, one_t, Int.toNat_zero, Int.toNat_one, tn2, tn3, Nat.mul_one, Nat.zero_add, Nat.zero_mul, Nat.add_zero]
          rfl
        case o1 => simp only [List.append_assoc]; exact Old.app _ _
        case o2 => simp only [List.length_append, List.length_cons, List.length_nil]; omega
        case o3 => simp only [List.length_append, List.length_cons, List.length_nil]; omega
        case o4 => simp only [List.length_append, List.length_cons, List.length_nil]; omega
        case o5 => simp only [List.length_append, List.length_cons, List.length_nil]; omega
        case o6 => simp only [List.length_append, List.length_cons, List.length_nil]; omega
        case o7 => simp only [List.length_append, List.length_cons, List.length_nil]; omega
        case o8 => simp only [List.length_append, List.length_cons, List.length_nil, ne_eq]; omega
        case o9 => simp only [List.length_append, List.length_cons, List.length_nil, ne_eq]; omega
        case oa => simp only [List.length_append, List.length_cons, List.length_nil, ne_eq]; omega
        case s1 => exact ⟨⟨pl5 x0 y0 x1 y1 q xs.length c, false, 0⟩, by unfold pl5; simp (disch := (first | assumption | omega | exact Nat.le_of_ble_eq_true rfl | (simp only [List.length_append, List.length_cons, List.length_nil]; omega))) only [hblk_new, hblk_old], rfl⟩
        case s2 => exact ⟨⟨cmp4 d s x y, false, 0⟩, by unfold cmp4; simp (disch := (first | assumption | omega | exact Nat.le_of_ble_eq_true rfl | (simp only [List.length_append, List.length_cons, List.length_nil]; omega))) only [hblk_new, hblk_old], rfl⟩
        case s3 => unfold Owns zero5; simp (disch := (first | assumption | omega | exact Nat.le_of_ble_eq_true rfl | (simp only [List.length_append, List.length_cons, List.length_nil]; omega))) only [hblk_new, hblk_old]
        case s4 => unfold Owns pl5; simp (disch := (first | assumption | omega | exact Nat.le_of_ble_eq_true rfl | (simp only [List.length_append, List.length_cons, List.length_nil]; omega))) only [hblk_new, hblk_old]
      obtain ⟨HL, ba, bc, br, bo, o1, o2, o3, o4, o5, o6, o7, o8, o9, oa, s1, s2, s3, s4, em⟩ := hall
      have hb : ints xs = [] ∨ Below H.length q := by
        rcases hS with h | ⟨b, o, full, rfl, h1, _⟩
        · exact .inl h
        · exact .inr fun a ha => by cases ha; exact h1.lt
      obtain ⟨H', p1, p2, p3⟩ := shiftR_loop k (by omega) (M := HL.length) c hd o8 o9 oa o2 o3 o5 o7 o6 o4 hb (by omega) xs.length k 0 (by omega) (by omega) HL none 0 [] rfl (hS.keep o1) s1 s2 s3 s4 (Bld.nil _ _ _) (Nat.le_refl _)
      simp only [List.drop_zero, Int.natCast_zero] at p3
      rcases p3 with ⟨r1, q2, c2, r2, r3, r4⟩ | ⟨r1, r2⟩
      · obtain ⟨H2, e3, O2, b2, n2⟩ := p2.st (vs := pl5 x0 y0 x1 y1 q2 xs.length c2) rfl rfl
        have mp := r3.sees.cell
        have mr := O2.sees.cell
        unfold pl5 at mp mr e3
        rw [r1]
        refine ⟨q2, c2, H2, fun R K => ?_, ?_, o1.trans (p1.trans (b2.old o4 (by have := p1.1; have := o1.1; omega)))⟩
        · rw [em, r2]
          simp (disch := (first | assumption | omega | exact Nat.le_of_ble_eq_true rfl | (simp only [List.length_append, List.length_cons, List.length_nil]; omega))) only [mp, mr, e3, hal_x, hmk_x, hcell_new, hcell_old, hidx_x, hfad_x, hnil_x, ldI_x, ldB_x, ldP_x, ldL_x, pad_some, get0, gets, ik64, ik8, ik32, iku64, cond_true, cond_false, hst_new, hst_old, splice_cc, splice_nn, one_n, one_i, one_b, one_p, one_s, one_t, Int.toNat_zero, Int.toNat_one, tn2, tn3, Nat.mul_one, Nat.zero_add, Nat.zero_mul, Nat.add_zero]
          simp only [List.length_map]
          rfl
        · exact (r4.but b2 o5).shows.1
      · have mr := p2.sees.cell
        unfold zero5 at mr
        rw [r1]
        refine ⟨none, 0, H', fun R K => ?_, .inl rfl, o1.trans p1⟩
        rw [em, r2]
        simp (disch := (first | assumption | omega | exact Nat.le_of_ble_eq_true rfl | (simp only [List.length_append, List.length_cons, List.length_nil]; omega))) only [mr, hal_x, hmk_x, hcell_new, hcell_old, hidx_x, hfad_x, hnil_x, ldI_x, ldB_x, ldP_x, ldL_x, pad_some, get0, gets, ik64, ik8, ik32, iku64, cond_true, cond_false, hst_new, hst_old, splice_cc, splice_nn, one_n, one_i, one_b, one_p, one_s, one_t, Int.toNat_zero, Int.toNat_one, tn2, tn3, Nat.mul_one, Nat.zero_add, Nat.zero_mul, Nat.add_zero]
        rfl
set_option maxHeartbeats 4000000 in
theorem UnshiftR_eq (k : Nat) (hk : 500 < k) {H : Heap} {q : Option Addr} {xs : List Int} (hS : Shows H q (ints xs)) (hl : xs.length ≤ 400) (x0 y0 x1 y1 : Int) (c : Nat) (d : Int) (s : Bool) (x y : Int) :
    ∃ q' c' H', (∀ (R : Type) (K : Int → Int → Int → Int → Option Addr → Nat → Nat → Int → Heap → Option R), R07_Unshift k x0 y0 x1 y1 q xs.length c d s x y H K = K (zz (usf x0 y0 x1 y1 xs d s).1 x0) (zz (usf x0 y0 x1 y1 xs d s).1 y0) (zz (usf x0 y0 x1 y1 xs d s).1 x1) (zz (usf x0 y0 x1 y1 xs d s).1 y1) q' (usf x0 y0 x1 y1 xs d s).2.length c' (usf x0 y0 x1 y1 xs d s).1 H') ∧ Shows H' q' (ints (usf x0 y0 x1 y1 xs d s).2) ∧ Old H.length H H' := by
  obtain ⟨J1, e1⟩ := planeValidR_eq x0 y0 x1 y1 q xs.length c (H ++ [some ⟨[.int .i64 x0, .int .i64 y0, .int .i64 x1, .int .i64 y1, .slice q xs.length c], false, 0⟩] ++ [some ⟨[.int .i64 d, .bool s, .int .i64 x, .int .i64 y], false, 0⟩] ++ [some ⟨[.int .i64 0, .int .i64 0, .int .i64 0, .int .i64 0, .slice none 0 0], false, 0⟩])
  unfold usf
  cases hv : pv x0 y0 x1 y1 xs.length with
  | false =>
    rw [hv] at e1
    refine ⟨none, 0, ?J1, fun R K => ?M1, .inl rfl, ?O1⟩
    case M1 =>
      unfold R07_Unshift R07_Unshift_b
      simp (disch := (first | assumption | omega | exact Nat.le_of_ble_eq_true rfl | (simp only [List.length_append, List.length_cons, List.length_nil]; omega))) only [e1, Bool.not_false, hal_x, hmk_x, hcell_new, hcell_old, hidx_x, hfad_x, hnil_x, ldI_x, ldB_x, ldP_x, ldL_x, pad_some, get0, gets, ik64, ik8, ik32, iku64, cond_true, cond_false, hst_new, hst_old, splice_cc, splice_nn, one_n, one_i, one_b, one_p, one_s, one_t, Int.toNat_zero, Int.toNat_one, tn2, tn3, Nat.mul_one, Nat.zero_add, Nat.zero_mul, Nat.add_zero]
      rfl
    case O1 => simp only [List.append_assoc]; exact Old.app _ _
  | true =>
    rw [hv] at e1
    cases hd : dp d with
    | false =>
      by_cases c1 : d < 1
      · have k1 : decide (d < 1) = true := decide_eq_true c1
        refine ⟨none, 0, ?J2, fun R K => ?M2, .inl rfl, ?O2⟩
        case M2 =>
          unfold R07_Unshift R07_Unshift_b R07_Unshift_p0 R07_Unshift_p0_b
          simp (disch := (first | assumption | omega | exact Nat.le_of_ble_eq_true rfl | (simp only [List.length_append, List.length_cons, List.length_nil]; omega))) only [e1, Bool.not_true, Bool.not_false, k1, hal_x, hmk_x, hcell_new, hcell_old, hidx_x, hfad_x, hnil_x, ldI_x, ldB_x, ldP_x, ldL_x, pad_some, get0, gets, ik64, ik8, ik32, iku64, cond_true, cond_false, hst_new, hst_old, splice_cc, splice_nn, one_n, one_i, one_b, one_p, one_s, one_t, Int.toNat_zero, Int.toNat_one, tn2, tn3, Nat.mul_one, Nat.zero_add, Nat.zero_mul, Nat.add_zero]
          rfl
        case O2 => simp only [List.append_assoc]; exact Old.app _ _
      · have k1 : decide (d < 1) = false := decide_eq_false c1
        have k2 : decide (d > 16) = true := by
          unfold dp at hd
          simp only [Bool.and_eq_false_iff, decide_eq_false_iff_not] at hd
          exact decide_eq_true (by omega)
        refine ⟨none, 0, ?J3, fun R K => ?M3, .inl rfl, ?O3⟩
        case M3 =>
          unfold R07_Unshift R07_Unshift_b R07_Unshift_p0 R07_Unshift_p0_b
          simp (disch := (first | assumption | omega | exact Nat.le_of_ble_eq_true rfl | (simp only [List.length_append, List.length_cons, List.length_nil]; omega))) only [e1, Bool.not_true, Bool.not_false, k1, k2, hal_x, hmk_x, hcell_new, hcell_old, hidx_x, hfad_x, hnil_x, ldI_x, ldB_x, ldP_x, ldL_x, pad_some, get0, gets, ik64, ik8, ik32, iku64, cond_true, cond_false, hst_new, hst_old, splice_cc, splice_nn, one_n, one_i, one_b, one_p, one_s, one_t, Int.toNat_zero, Int.toNat_one, tn2, tn3, Nat.mul_one, Nat.zero_add, Nat.zero_mul, Nat.add_zero]
          rfl
        case O3 => simp only [List.append_assoc]; exact Old.app _ _
    | true =>
      have hdp := dp_of hd
      have k1 : decide (d < 1) = false := decide_eq_false (by omega)
      have k2 : decide (d > 16) = false := decide_eq_false (by omega)
      have hall : ∃ HL ba bc br bo, Old H.length H HL ∧ ba < HL.length ∧ bc < HL.length ∧ H.length ≤ br ∧ br < HL.length ∧ H.length ≤ bo ∧ bo < HL.length ∧ ba ≠ bo ∧ bc ≠ bo ∧ br ≠ bo ∧ Sees HL ba (pl5 x0 y0 x1 y1 q xs.length c) ∧ Sees HL bc (cmp4 d s x y) ∧ Owns HL br zero5 0 ∧ Owns HL bo (pl5 x0 y0 x1 y1 none 0 0) 0 ∧
          ∀ (R : Type) (K : Int → Int → Int → Int → Option Addr → Nat → Nat → Int → Heap → Option R), R07_Unshift k x0 y0 x1 y1 q xs.length c d s x y H K = R07_Unshift_l1 k (fun p247 p248 H249 =>
            ldI .i64 H249 (pad p248 0) fun n250 => ldI .i64 H249 (pad p248 1) fun n251 => ldI .i64 H249 (pad p248 2) fun n252 => ldI .i64 H249 (pad p248 3) fun n253 => ldL H249 (pad p248 4) fun q254 l255 c256 =>
            hst H249 p247 [.int .i64 n250, .int .i64 n251, .int .i64 n252, .int .i64 n253, .slice q254 l255 c256] fun H257 =>
            ldI .i64 H257 (pad p247 0) fun n258 => ldI .i64 H257 (pad p247 1) fun n259 => ldI .i64 H257 (pad p247 2) fun n260 => ldI .i64 H257 (pad p247 3) fun n261 => ldL H257 (pad p247 4) fun q262 l263 c264 => K n258 n259 n260 n261 q262 l263 c264 0 H257)
            k (some ⟨ba, 0, none⟩) (some ⟨bc, 0, none⟩) (some ⟨br, 0, none⟩) (lo d s) (hi d s) (some ⟨bo, 0, none⟩) 0 HL := by
        obtain ⟨J2, e2⟩ := RangeR_eq k (by omega) d s x y (H ++ [some ⟨[.int .i64 x0, .int .i64 y0, .int .i64 x1, .int .i64 y1, .slice q xs.length c], false, 0⟩] ++ [some ⟨[.int .i64 d, .bool s, .int .i64 x, .int .i64 y], false, 0⟩] ++ [some ⟨[.int .i64 0, .int .i64 0, .int .i64 0, .int .i64 0, .slice none 0 0], false, 0⟩] ++ J1)
        refine ⟨?HL, ?ba, ?bc, ?br, ?bo, ?o1, ?o2, ?o3, ?o4, ?o5, ?o6, ?o7, ?o8, ?o9, ?oa, ?s1, ?s2, ?s3, ?s4, fun R K => ?main⟩
        case main =>
          unfold R07_Unshift R07_Unshift_b R07_Unshift_p0 R07_Unshift_p0_b
          simp (disch := (first | assumption | omega | exact Nat.le_of_ble_eq_true rfl | (simp only [List.length_append, List.length_cons, List.length_nil]; omega))) only [e1, Bool.not_true, k1, k2, e2, hal_x, hmk_x, hcell_new, hcell_old, hidx_x, hfad_x, hnil_x, ldI_x, ldB_x, ldP_x, ldL_x, pad_some, get0, gets, ik64, ik8, ik32, iku64, cond_true, cond_false, hst_new, hst_old, splice_cc, splice_nn, one_n, one_i, one_b, one_p, one_s, one_t, Int.toNat_zero, Int.toNat_one, tn2, tn3, Nat.mul_one, Nat.zero_add, Nat.zero_mul, Nat.add_zero]
          rfl
        case o1 => simp only [List.append_assoc]; exact Old.app _ _
        case o2 => simp only [List.length_append, List.length_cons, List.length_nil]; omega
        case o3 => simp only [List.length_append, List.length_cons, List.length_nil]; omega
        case o4 => simp only [List.length_append, List.length_cons, List.length_nil]; omega
        case o5 => simp only [List.length_append, List.length_cons, List.length_nil]; omega
        case o6 => simp only [List.length_append, List.length_cons, List.length_nil]; omega
        case o7 => simp only [List.length_append, List.length_cons, List.length_nil]; omega
        case o8 => simp only [List.length_append, List.length_cons, List.length_nil, ne_eq]; omega
        case o9 => simp only [List.length_append, List.length_cons, List.length_nil, ne_eq]; omega
        case oa => simp only [List.length_append, List.length_cons, List.length_nil, ne_eq]; omega
        case s1 => exact ⟨⟨pl5 x0 y0 x1 y1 q xs.length c, false, 0⟩, by unfold pl5; simp (disch := (first | assumption | omega | exact Nat.le_of_ble_eq_true rfl | (simp only [List.length_append, List.length_cons, List.length_nil]; omega))) only [hblk_new, hblk_old], rfl⟩
        case s2 => exact ⟨⟨cmp4 d s x y, false, 0⟩, by unfold cmp4; simp (disch := (first | assumption | omega | exact Nat.le_of_ble_eq_true rfl | (simp only [List.length_append, List.length_cons, List.length_nil]; omega))) only [hblk_new, hblk_old], rfl⟩
        case s3 => unfold Owns zero5; simp (disch := (first | assumption | omega | exact Nat.le_of_ble_eq_true rfl | (simp only [List.length_append, List.length_cons, List.length_nil]; omega))) only [hblk_new, hblk_old]
        case s4 => unfold Owns pl5; simp (disch := (first | assumption | omega | exact Nat.le_of_ble_eq_true rfl | (simp only [List.length_append, List.length_cons, List.length_nil]; omega))) only [hblk_new, hblk_old]
      obtain ⟨HL, ba, bc, br, bo, o1, o2, o3, o4, o5, o6, o7, o8, o9, oa, s1, s2, s3, s4, em⟩ := hall
      have hb : ints xs = [] ∨ Below H.length q := by
        rcases hS with h | ⟨b, o, full, rfl, h1, _⟩
        · exact .inl h
        · exact .inr fun a ha => by cases ha; exact h1.lt
      obtain ⟨H', p1, p2, q2, c2, r2, r3, r4⟩ := unshiftR_loop k (by omega) (M := HL.length) c hd o8 o9 oa o2 o3 o5 o7 o6 o4 hb (by omega) xs.length k 0 (by omega) (by omega) HL none 0 [] rfl (hS.keep o1) s1 s2 s3 s4 (Bld.nil _ _ _) (Nat.le_refl _)
      simp only [Int.natCast_zero] at r2
      obtain ⟨H2, e3, O2, b2, n2⟩ := p2.st (vs := pl5 x0 y0 x1 y1 q2 xs.length c2) rfl rfl
      have mp := r3.sees.cell
      have mr := O2.sees.cell
      unfold pl5 at mp mr e3
      refine ⟨q2, c2, H2, fun R K => ?_, ?_, o1.trans (p1.trans (b2.old o4 (by have := p1.1; have := o1.1; omega)))⟩
      · rw [em, r2]
        simp (disch := (first | assumption | omega | exact Nat.le_of_ble_eq_true rfl | (simp only [List.length_append, List.length_cons, List.length_nil]; omega))) only [mp, mr, e3, hal_x, hmk_x, hcell_new, hcell_old, hidx_x, hfad_x, hnil_x, ldI_x, ldB_x, ldP_x, ldL_x, pad_some, get0, gets, ik64, ik8, ik32, iku64, cond_true, cond_false, hst_new, hst_old, splice_cc, splice_nn, one_n, one_i, one_b, one_p, one_s, one_t, Int.toNat_zero, Int.toNat_one, tn2, tn3, Nat.mul_one, Nat.zero_add, Nat.zero_mul, Nat.add_zero]
        simp only [List.length_map]
        rfl
      · exact (r4.but b2 o5).shows.1
end Go.Proofs.Ytoeoolnkndkefaa.Sh
/- Color: planes compared. -/
set_option linter.unusedVariables false
set_option linter.unusedSimpArgs false
namespace Go.Proofs.Ytoeoolnkndkefaa.Sh
open Go.Proofs.Ytoeoolnkndkefaa.FW
theorem sameInts_loop (k : Nat) {H : Heap} {q1 q2 : Option Addr} (c1 c2 : Nat) {xs : List Int} (h1 : Shows H q1 (ints xs)) (h2 : Shows H q2 (ints xs)) (hl : xs.length ≤ 2000000) (R : Type) (KE : Unit → Option R) (KR : Bool → Option R) : ∀ (m n i : Nat), m < n → xs.length = i + m → R02_SameInts_l0 k KE KR n q1 xs.length c1 q2 xs.length c2 (i : Int) H = KE () := by
  intro m
  induction m with
  | zero =>
    intro n i hn hi
    obtain ⟨n, rfl⟩ : ∃ n', n = n' + 1 := ⟨n - 1, by omega⟩
    have ed : decide ((i : Int) < ((xs.length : Nat) : Int)) = false := decide_eq_false (by omega)
    simp only [R02_SameInts_l0, R02_SameInts_l0_b, ed, cond_false]
  | succ m ih =>
    intro n i hn hi
    obtain ⟨n, rfl⟩ : ∃ n', n = n' + 1 := ⟨n - 1, by omega⟩
    have ed : decide ((i : Int) < ((xs.length : Nat) : Int)) = true := decide_eq_true (by omega)
    have ew : IntKind.wrap .i64 ((i : Int) + 1) = ((i + 1 : Nat) : Int) := by rw [w64 (by omega) (by omega)]; rfl
    obtain ⟨p1, e1, l1⟩ := int_at h1 (show i < xs.length by omega)
    obtain ⟨p2, e2, l2⟩ := int_at h2 (show i < xs.length by omega)
    simp only [R02_SameInts_l0, R02_SameInts_l0_b, ed, cond_true, e1, e2, l1, l2, bne_self_eq_false, cond_false, ew]
    exact ih n (i + 1) (by omega) (by omega)
theorem sameInts_eq {k : Nat} (hk : 500 < k) {H : Heap} {q1 q2 : Option Addr} (c1 c2 : Nat) {xs : List Int} (h1 : Shows H q1 (ints xs)) (h2 : Shows H q2 (ints xs)) (hl : xs.length ≤ 400) (R : Type) (K : Bool → Option R) : R02_SameInts k q1 xs.length c1 q2 xs.length c2 H K = K true := by
  unfold R02_SameInts R02_SameInts_b
  simp only [bne_self_eq_false, cond_false]
  have := sameInts_loop k c1 c2 h1 h2 (by omega) R (fun _ => K true) (fun t => K t) xs.length k 0 (by omega) (by omega)
  simp only [Int.natCast_zero] at this
  exact this
theorem same_eq {k : Nat} (hk : 500 < k) {H : Heap} {q1 q2 : Option Addr} (c1 c2 : Nat) {xs : List Int} (h1 : Shows H q1 (ints xs)) (h2 : Shows H q2 (ints xs)) (hl : xs.length ≤ 400) (x0 y0 x1 y1 : Int) : ∃ J, ∀ (R : Type) (K : Bool → Heap → Option R), R02_Same k x0 y0 x1 y1 q1 xs.length c1 x0 y0 x1 y1 q2 xs.length c2 H K = K true (H ++ J) := by
  have hb : ∀ (J : Heap) (R : Type) (K : Bool → Option R), R02_SameInts k q1 xs.length c1 q2 xs.length c2 (H ++ J) K = K true := fun J R K => sameInts_eq hk c1 c2 (h1.keep (Old.app _ _)) (h2.keep (Old.app _ _)) hl R K
  refine ⟨?J33, fun R K => ?M33⟩
  case M33 =>
    unfold R02_Same R02_Same_b
    simp (disch := (first | assumption | omega | exact Nat.le_of_ble_eq_true rfl | (simp only [List.length_append, List.length_cons, List.length_nil]; omega))) only [beq_self_eq_true, Bool.and_self, hal_x, hmk_x, hcell_new, hcell_old, hidx_x, hfad_x, hnil_x, ldI_x, ldB_x, ldP_x, ldL_x, pad_some, get0, gets, ik64, ik8, ik32, iku64, cond_true, cond_false, hst_new, hst_old, splice_cc, splice_nn, one_n, one_i, one_b, one_p, one_s, one_t, Int.toNat_zero, Int.toNat_one, tn2, tn3, Nat.mul_one, Nat.zero_add, Nat.zero_mul, Nat.add_zero]
    simp only [List.append_assoc]
    rw [hb]
end Go.Proofs.Ytoeoolnkndkefaa.Sh
