/- Forward and Inverse return what the reference returns. -/
import Derived.Test.YtoeoolnkndkefaaClB
import Derived.Test.YtoeoolnkndkefaaSh14
set_option linter.unusedVariables false
set_option linter.unusedSimpArgs false
namespace Go.Proofs.Ytoeoolnkndkefaa.Sh
open Go.Proofs.Ytoeoolnkndkefaa.FW
theorem pixels_in (H : Heap) (us : List Value) (h : AllLies H [(.int .i64, false), (.pair (.int .i64) (.pair (.int .i64) (.pair (.int .i64) .nil)), true)] us) : L_ColorPixels_c Bool 10 us H asB = some true := by
  obtain ⟨t, _, rfl, _, h1⟩ := lies_int h
  obtain ⟨cs, _, rfl, hs, h2⟩ := lies_agg h1
  cases lies_nil h2
  obtain ⟨x, y, rfl, ⟨a, rfl, ha⟩, x2, y2, rfl, ⟨b, rfl, hb⟩, x3, y3, rfl, ⟨c, rfl, hc⟩, hn⟩ := hs
  have hn' : y3 = [] := hn
  subst hn'
  have ha := wf_64 ha
  have hb := wf_64 hb
  have hc := wf_64 hc
  show L_ColorPixels 10 t a b c H (fun t H => asB (.bool t) H) = some true
  obtain ⟨J1, e1⟩ := Forward_eq t a b c (H ++ [some ⟨[.int .i64 a, .int .i64 b, .int .i64 c], false, 0⟩])
  obtain ⟨J2, e2⟩ := Inverse_eq t a b c (H ++ [some ⟨[.int .i64 a, .int .i64 b, .int .i64 c], false, 0⟩] ++ J1)
  have fin : ∀ (H : Heap), L_exampleHoldsq (fun t => asB (.bool t) H) = some true := fun H => rfl
  unfold L_ColorPixels L_ColorPixels_b L_ColorPixels_p0 L_ColorPixels_p0_b L_ColorPixels_p1 L_ColorPixels_p1_b
  cases hbd : (decide (-281474976710656 ≤ a) && (decide (a ≤ 281474976710656) && (decide (-281474976710656 ≤ b) && (decide (b ≤ 281474976710656) && (decide (-281474976710656 ≤ c) && decide (c ≤ 281474976710656)))))) with
  | true =>
    simp (disch := (first | assumption | omega | exact Nat.le_of_ble_eq_true rfl | (simp only [List.length_append, List.length_cons, List.length_nil]; omega))) only [bounded_eq, hbd, Bool.not_true, e1, e2, ForwardR_eq, InverseR_eq t a b c hb hc, bne_self_eq_false, beq_self_eq_true, fin, hal_x, hcell_new, hcell_old, hidx_x, hfad_x, hnil_x, ldI_x, ldB_x, ldP_x, ldL_x, pad_some, get0, gets, ik64, ik8, ik32, iku64, cond_true, cond_false, hst_new, hst_old, splice_cc, splice_nn, one_n, one_i, one_b, one_p, one_s, one_t, Int.toNat_zero, Int.toNat_one, tn2, tn3, Nat.mul_one, Nat.zero_add, Nat.zero_mul, Nat.add_zero]
  | false =>
    by_cases c1 : t = 1
    · have k1 : (t == 1) = true := by simpa using c1
      simp (disch := (first | assumption | omega | exact Nat.le_of_ble_eq_true rfl | (simp only [List.length_append, List.length_cons, List.length_nil]; omega))) only [bounded_eq, hbd, Bool.not_false, k1, fin, hal_x, hcell_new, hcell_old, hidx_x, hfad_x, hnil_x, ldI_x, ldB_x, ldP_x, ldL_x, pad_some, get0, gets, ik64, ik8, ik32, iku64, cond_true, cond_false, hst_new, hst_old, splice_cc, splice_nn, one_n, one_i, one_b, one_p, one_s, one_t, Int.toNat_zero, Int.toNat_one, tn2, tn3, Nat.mul_one, Nat.zero_add, Nat.zero_mul, Nat.add_zero]
    · have k1 : (t == 1) = false := by simpa using c1
      cases k2 : t == 2 with
      | true => simp (disch := (first | assumption | omega | exact Nat.le_of_ble_eq_true rfl | (simp only [List.length_append, List.length_cons, List.length_nil]; omega))) only [bounded_eq, hbd, Bool.not_false, k1, k2, fin, hal_x, hcell_new, hcell_old, hidx_x, hfad_x, hnil_x, ldI_x, ldB_x, ldP_x, ldL_x, pad_some, get0, gets, ik64, ik8, ik32, iku64, cond_true, cond_false, hst_new, hst_old, splice_cc, splice_nn, one_n, one_i, one_b, one_p, one_s, one_t, Int.toNat_zero, Int.toNat_one, tn2, tn3, Nat.mul_one, Nat.zero_add, Nat.zero_mul, Nat.add_zero]
      | false => simp (disch := (first | assumption | omega | exact Nat.le_of_ble_eq_true rfl | (simp only [List.length_append, List.length_cons, List.length_nil]; omega))) only [bounded_eq, hbd, Bool.not_false, k1, k2, e1, e2, ForwardR_eq, InverseR_eq t a b c hb hc, bne_self_eq_false, beq_self_eq_true, fin, hal_x, hcell_new, hcell_old, hidx_x, hfad_x, hnil_x, ldI_x, ldB_x, ldP_x, ldL_x, pad_some, get0, gets, ik64, ik8, ik32, iku64, cond_true, cond_false, hst_new, hst_old, splice_cc, splice_nn, one_n, one_i, one_b, one_p, one_s, one_t, Int.toNat_zero, Int.toNat_one, tn2, tn3, Nat.mul_one, Nat.zero_add, Nat.zero_mul, Nat.add_zero]
end Go.Proofs.Ytoeoolnkndkefaa.Sh
