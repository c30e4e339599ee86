/- Color: the transforms of a pixel. -/
import Derived.Test.YtoeoolnkndkefaaSh5
import Derived.Test.YtoeoolnkndkefaaSh10
import Derived.Test.YtoeoolnkndkefaaFwX
import Derived.Test.YtoeoolnkndkefaaFwO
import Derived.IntWalk
set_option linter.unusedVariables false
set_option linter.unusedSimpArgs false
namespace Go.Proofs.Ytoeoolnkndkefaa.Sh
open Go.Proofs.Ytoeoolnkndkefaa.FW
theorem wf_64 {a : Int} (h : (Lit.int .i64 a).wf = true) : -9223372036854775808 ≤ a ∧ a ≤ 9223372036854775807 := by
  simp only [Lit.wf, IntKind.min, IntKind.max, IntKind.signed, IntKind.bits, Bool.and_eq_true, decide_eq_true_eq, if_true] at h
  exact ⟨by omega, by omega⟩
theorem w64 {n : Int} (h0 : -9223372036854775808 ≤ n) (h1 : n ≤ 9223372036854775807) : IntKind.wrap .i64 n = n := IntWalk.i64_in n ⟨h0, h1⟩
abbrev W (n : Int) : Int := IntKind.wrap .i64 n
def fwd (t a b c : Int) : Int × Int × Int :=
  bif t == 1 then (Int.fdiv (W (W (a + W (2 * b)) + c)) 4, W (c - b), W (a - b))
  else bif t == 2 then (W (W (c + Int.fdiv (W (a - c)) 2) + Int.fdiv (W (b - W (c + Int.fdiv (W (a - c)) 2))) 2), W (a - c), W (b - W (c + Int.fdiv (W (a - c)) 2)))
  else (a, b, c)
def inv (t a b c : Int) : Int × Int × Int :=
  bif t == 1 then (W (c + W (a - Int.fdiv (W (b + c)) 4)), W (a - Int.fdiv (W (b + c)) 4), W (b + W (a - Int.fdiv (W (b + c)) 4)))
  else bif t == 2 then (W (W (W (a - Int.fdiv c 2) - Int.fdiv b 2) + b), W (c + W (a - Int.fdiv c 2)), W (W (a - Int.fdiv c 2) - Int.fdiv b 2))
  else (a, b, c)
theorem forward_eq (t a b c : Int) (H : Heap) : ∃ J, ∀ (R : Type) (K : Int → Int → Int → Heap → Option R), color_forward t a b c H K = K (fwd t a b c).1 (fwd t a b c).2.1 (fwd t a b c).2.2 (H ++ J) := by
  unfold fwd
  cases h1 : t == 1 with
  | true =>
    refine ⟨?J1, fun R K => ?M1⟩
    case M1 =>
      unfold color_forward color_forward_b color_quarter color_quarter_b color_half color_half_b
      simp (disch := (first | assumption | omega | exact Nat.le_of_ble_eq_true rfl | (simp only [List.length_append, List.length_cons, List.length_nil]; omega))) only [h1, hal_x, hcell_new, hcell_old, hidx_x, hfad_x, hnil_x, ldI_x, ldB_x, ldP_x, ldL_x, pad_some, get0, gets, ik64, ik8, ik32, iku64, cond_true, cond_false, hst_new, hst_old, splice_cc, splice_nn, one_n, one_i, one_b, one_p, one_s, one_t, Int.toNat_zero, Int.toNat_one, tn2, tn3, Nat.mul_one, Nat.zero_add, Nat.zero_mul, Nat.add_zero]
      simp only [List.append_assoc]
      rfl
  | false =>
    cases h2 : t == 2 with
    | true =>
      refine ⟨?J2, fun R K => ?M2⟩
      case M2 =>
        unfold color_forward color_forward_b color_quarter color_quarter_b color_half color_half_b
        simp (disch := (first | assumption | omega | exact Nat.le_of_ble_eq_true rfl | (simp only [List.length_append, List.length_cons, List.length_nil]; omega))) only [h1, h2, hal_x, hcell_new, hcell_old, hidx_x, hfad_x, hnil_x, ldI_x, ldB_x, ldP_x, ldL_x, pad_some, get0, gets, ik64, ik8, ik32, iku64, cond_true, cond_false, hst_new, hst_old, splice_cc, splice_nn, one_n, one_i, one_b, one_p, one_s, one_t, Int.toNat_zero, Int.toNat_one, tn2, tn3, Nat.mul_one, Nat.zero_add, Nat.zero_mul, Nat.add_zero]
        simp only [List.append_assoc]
        rfl
    | false =>
      refine ⟨?J3, fun R K => ?M3⟩
      case M3 =>
        unfold color_forward color_forward_b color_quarter color_quarter_b color_half color_half_b
        simp (disch := (first | assumption | omega | exact Nat.le_of_ble_eq_true rfl | (simp only [List.length_append, List.length_cons, List.length_nil]; omega))) only [h1, h2, hal_x, hcell_new, hcell_old, hidx_x, hfad_x, hnil_x, ldI_x, ldB_x, ldP_x, ldL_x, pad_some, get0, gets, ik64, ik8, ik32, iku64, cond_true, cond_false, hst_new, hst_old, splice_cc, splice_nn, one_n, one_i, one_b, one_p, one_s, one_t, Int.toNat_zero, Int.toNat_one, tn2, tn3, Nat.mul_one, Nat.zero_add, Nat.zero_mul, Nat.add_zero]
        simp only [List.append_assoc]
        rfl
theorem inverse_eq (t a b c : Int) (H : Heap) : ∃ J, ∀ (R : Type) (K : Int → Int → Int → Heap → Option R), color_inverse t a b c H K = K (inv t a b c).1 (inv t a b c).2.1 (inv t a b c).2.2 (H ++ J) := by
  unfold inv
  cases h1 : t == 1 with
  | true =>
    refine ⟨?J4, fun R K => ?M4⟩
    case M4 =>
      unfold color_inverse color_inverse_b color_quarter color_quarter_b color_half color_half_b
      simp (disch := (first | assumption | omega | exact Nat.le_of_ble_eq_true rfl | (simp only [List.length_append, List.length_cons, List.length_nil]; omega))) only [h1, hal_x, hcell_new, hcell_old, hidx_x, hfad_x, hnil_x, ldI_x, ldB_x, ldP_x, ldL_x, pad_some, get0, gets, ik64, ik8, ik32, iku64, cond_true, cond_false, hst_new, hst_old, splice_cc, splice_nn, one_n, one_i, one_b, one_p, one_s, one_t, Int.toNat_zero, Int.toNat_one, tn2, tn3, Nat.mul_one, Nat.zero_add, Nat.zero_mul, Nat.add_zero]
      simp only [List.append_assoc]
      rfl
  | false =>
    cases h2 : t == 2 with
    | true =>
      refine ⟨?J5, fun R K => ?M5⟩
      case M5 =>
        unfold color_inverse color_inverse_b color_quarter color_quarter_b color_half color_half_b
        simp (disch := (first | assumption | omega | exact Nat.le_of_ble_eq_true rfl | (simp only [List.length_append, List.length_cons, List.length_nil]; omega))) only [h1, h2, hal_x, hcell_new, hcell_old, hidx_x, hfad_x, hnil_x, ldI_x, ldB_x, ldP_x, ldL_x, pad_some, get0, gets, ik64, ik8, ik32, iku64, cond_true, cond_false, hst_new, hst_old, splice_cc, splice_nn, one_n, one_i, one_b, one_p, one_s, one_t, Int.toNat_zero, Int.toNat_one, tn2, tn3, Nat.mul_one, Nat.zero_add, Nat.zero_mul, Nat.add_zero]
        simp only [List.append_assoc]
        rfl
    | false =>
      refine ⟨?J6, fun R K => ?M6⟩
      case M6 =>
        unfold color_inverse color_inverse_b color_quarter color_quarter_b color_half color_half_b
        simp (disch := (first | assumption | omega | exact Nat.le_of_ble_eq_true rfl | (simp only [List.length_append, List.length_cons, List.length_nil]; omega))) only [h1, h2, hal_x, hcell_new, hcell_old, hidx_x, hfad_x, hnil_x, ldI_x, ldB_x, ldP_x, ldL_x, pad_some, get0, gets, ik64, ik8, ik32, iku64, cond_true, cond_false, hst_new, hst_old, splice_cc, splice_nn, one_n, one_i, one_b, one_p, one_s, one_t, Int.toNat_zero, Int.toNat_one, tn2, tn3, Nat.mul_one, Nat.zero_add, Nat.zero_mul, Nat.add_zero]
        simp only [List.append_assoc]
        rfl
theorem Forward_eq (t a b c : Int) (H : Heap) : ∃ J, ∀ (R : Type) (K : Int → Int → Int → Heap → Option R), color_Forward t a b c H K = K (fwd t a b c).1 (fwd t a b c).2.1 (fwd t a b c).2.2 (H ++ J) := by
  obtain ⟨J, e⟩ := forward_eq t a b c H
  refine ⟨?J7, fun R K => ?M7⟩
  case M7 =>
    unfold color_Forward color_Forward_b
    simp (disch := (first | assumption | omega | exact Nat.le_of_ble_eq_true rfl | (simp only [List.length_append, List.length_cons, List.length_nil]; omega))) only [e, hal_x, hcell_new, hcell_old, hidx_x, hfad_x, hnil_x, ldI_x, ldB_x, ldP_x, ldL_x, pad_some, get0, gets, ik64, ik8, ik32, iku64, cond_true, cond_false, hst_new, hst_old, splice_cc, splice_nn, one_n, one_i, one_b, one_p, one_s, one_t, Int.toNat_zero, Int.toNat_one, tn2, tn3, Nat.mul_one, Nat.zero_add, Nat.zero_mul, Nat.add_zero]
    simp only [List.append_assoc]
    rfl
theorem Inverse_eq (t a b c : Int) (H : Heap) : ∃ J, ∀ (R : Type) (K : Int → Int → Int → Heap → Option R), color_Inverse t a b c H K = K (inv t a b c).1 (inv t a b c).2.1 (inv t a b c).2.2 (H ++ J) := by
  obtain ⟨J, e⟩ := inverse_eq t a b c H
  refine ⟨?J8, fun R K => ?M8⟩
  case M8 =>
    unfold color_Inverse color_Inverse_b
    simp (disch := (first | assumption | omega | exact Nat.le_of_ble_eq_true rfl | (simp only [List.length_append, List.length_cons, List.length_nil]; omega))) only [e, hal_x, hcell_new, hcell_old, hidx_x, hfad_x, hnil_x, ldI_x, ldB_x, ldP_x, ldL_x, pad_some, get0, gets, ik64, ik8, ik32, iku64, cond_true, cond_false, hst_new, hst_old, splice_cc, splice_nn, one_n, one_i, one_b, one_p, one_s, one_t, Int.toNat_zero, Int.toNat_one, tn2, tn3, Nat.mul_one, Nat.zero_add, Nat.zero_mul, Nat.add_zero]
    simp only [List.append_assoc]
    rfl
end Go.Proofs.Ytoeoolnkndkefaa.Sh
