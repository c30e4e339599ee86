/- Forward and Inverse undo each other. -/
import Derived.Test.YtoeoolnkndkefaaClB
import Derived.Test.YtoeoolnkndkefaaSh18
set_option linter.unusedVariables false
set_option linter.unusedSimpArgs false
namespace Go.Proofs.Ytoeoolnkndkefaa.Sh
open Go.Proofs.Ytoeoolnkndkefaa.FW
theorem fwd_gray {t d : Int} (ht : t = 1 ∨ t = 2) (hd : -1048576 ≤ d ∧ d ≤ 1048576) : fwd t d d d = (d, 0, 0) := by
  rcases ht with rfl | rfl
  · rw [fwd_rct (m := 1048576) (by omega) hd hd hd]
    refine Prod.ext ?_ (Prod.ext ?_ ?_) <;> simp only <;> omega
  · rw [fwd_ycc (m := 1048576) (by omega) hd hd hd]
    refine Prod.ext ?_ (Prod.ext ?_ ?_) <;> simp only <;> omega
theorem fwd_shift {t a b c d : Int} (ht : t = 1 ∨ t = 2) (ha : -1048576 ≤ a ∧ a ≤ 1048576) (hb : -1048576 ≤ b ∧ b ≤ 1048576) (hc : -1048576 ≤ c ∧ c ≤ 1048576) (hd : -1048576 ≤ d ∧ d ≤ 1048576) :
    fwd t (W (a + d)) (W (b + d)) (W (c + d)) = (W ((fwd t a b c).1 + d), (fwd t a b c).2.1, (fwd t a b c).2.2) := by
  unfold W
  rw [w64 (n := a + d) (by omega) (by omega), w64 (n := b + d) (by omega) (by omega), w64 (n := c + d) (by omega) (by omega)]
  rcases ht with rfl | rfl
  · rw [fwd_rct (m := 1048576) (by omega) ha hb hc, fwd_rct (m := 4194304) (by omega) (by omega) (by omega) (by omega)]
    dsimp only
    rw [w64 (by omega) (by omega)]
    refine Prod.ext ?_ (Prod.ext ?_ ?_) <;> simp only <;> omega
  · rw [fwd_ycc (m := 1048576) (by omega) ha hb hc, fwd_ycc (m := 4194304) (by omega) (by omega) (by omega) (by omega)]
    dsimp only
    rw [w64 (by omega) (by omega)]
    refine Prod.ext ?_ (Prod.ext ?_ ?_) <;> simp only <;> omega
theorem restores_in (H : Heap) (us : List Value) (h : AllLies H [(.int .i64, false), (.pair (.int .i64) (.pair (.int .i64) (.pair (.int .i64) .nil)), true), (.int .i64, false)] us) : L_ColorRestores_c Bool 10 us H asB = some true := by
  obtain ⟨t, _, rfl, _, h1⟩ := lies_int h
  obtain ⟨cs, _, rfl, hs, h2⟩ := lies_agg h1
  obtain ⟨d, _, rfl, _, h3⟩ := lies_int h2
  cases lies_nil h3
  obtain ⟨x, y, rfl, ⟨a, rfl, ha⟩, x2, y2, rfl, ⟨b, rfl, hb⟩, x3, y3, rfl, ⟨c, rfl, hc⟩, hn⟩ := hs
  have hn' : y3 = [] := hn
  subst hn'
  show L_ColorRestores 10 t a b c d H (fun t H => asB (.bool t) H) = some true
  have fin : ∀ (H : Heap), L_exampleHoldsq (fun t => asB (.bool t) H) = some true := fun H => rfl
  unfold L_ColorRestores L_ColorRestores_b L_ColorRestores_p0 L_ColorRestores_p0_b
  cases hbd : (decide (-1048576 ≤ a) && (decide (a ≤ 1048576) && (decide (-1048576 ≤ b) && (decide (b ≤ 1048576) && (decide (-1048576 ≤ c) && decide (c ≤ 1048576)))))) with
  | false => simp (disch := (first | assumption | omega | exact Nat.le_of_ble_eq_true rfl | (simp only [List.length_append, List.length_cons, List.length_nil]; omega))) only [bounded_eq, hbd, Bool.not_false, fin, hal_x, hcell_new, hcell_old, hidx_x, hfad_x, hnil_x, ldI_x, ldB_x, ldP_x, ldL_x, pad_some, get0, gets, ik64, ik8, ik32, iku64, cond_true, cond_false, hst_new, hst_old, splice_cc, splice_nn, one_n, one_i, one_b, one_p, one_s, one_t, Int.toNat_zero, Int.toNat_one, tn2, tn3, Nat.mul_one, Nat.zero_add, Nat.zero_mul, Nat.add_zero]
  | true =>
    cases hbe : (decide (-1048576 ≤ d) && (decide (d ≤ 1048576) && (decide (-1048576 ≤ d) && (decide (d ≤ 1048576) && (decide (-1048576 ≤ d) && decide (d ≤ 1048576)))))) with
    | false => simp (disch := (first | assumption | omega | exact Nat.le_of_ble_eq_true rfl | (simp only [List.length_append, List.length_cons, List.length_nil]; omega))) only [bounded_eq, hbd, hbe, Bool.not_true, Bool.not_false, fin, hal_x, hcell_new, hcell_old, hidx_x, hfad_x, hnil_x, ldI_x, ldB_x, ldP_x, ldL_x, pad_some, get0, gets, ik64, ik8, ik32, iku64, cond_true, cond_false, hst_new, hst_old, splice_cc, splice_nn, one_n, one_i, one_b, one_p, one_s, one_t, Int.toNat_zero, Int.toNat_one, tn2, tn3, Nat.mul_one, Nat.zero_add, Nat.zero_mul, Nat.add_zero]
    | true =>
      simp only [Bool.and_eq_true, decide_eq_true_eq] at hbd hbe
      have ra : -1048576 ≤ a ∧ a ≤ 1048576 := by omega
      have rb : -1048576 ≤ b ∧ b ≤ 1048576 := by omega
      have rc : -1048576 ≤ c ∧ c ≤ 1048576 := by omega
      have rd : -1048576 ≤ d ∧ d ≤ 1048576 := by omega
      have p1 := inv_fwd (t := t) (m := 1048576) (by omega) ra rb rc
      have p2 := fwd_inv (t := t) (m := 1048576) (by omega) ra rb rc
      have d1 : (decide (-1048576 ≤ a) && (decide (a ≤ 1048576) && (decide (-1048576 ≤ b) && (decide (b ≤ 1048576) && (decide (-1048576 ≤ c) && decide (c ≤ 1048576)))))) = true := by simp; omega
      have d2 : (decide (-1048576 ≤ d) && (decide (d ≤ 1048576) && (decide (-1048576 ≤ d) && (decide (d ≤ 1048576) && (decide (-1048576 ≤ d) && decide (d ≤ 1048576)))))) = true := by simp; omega
      obtain ⟨J1, e1⟩ := Forward_eq t a b c (H ++ [some ⟨[.int .i64 a, .int .i64 b, .int .i64 c], false, 0⟩])
      obtain ⟨J2, e2⟩ := Inverse_eq t (fwd t a b c).1 (fwd t a b c).2.1 (fwd t a b c).2.2 (H ++ [some ⟨[.int .i64 a, .int .i64 b, .int .i64 c], false, 0⟩] ++ J1)
      obtain ⟨J3, e3⟩ := Inverse_eq t a b c (H ++ [some ⟨[.int .i64 a, .int .i64 b, .int .i64 c], false, 0⟩] ++ J1 ++ J2)
      obtain ⟨J4, e4⟩ := Forward_eq t (inv t a b c).1 (inv t a b c).2.1 (inv t a b c).2.2 (H ++ [some ⟨[.int .i64 a, .int .i64 b, .int .i64 c], false, 0⟩] ++ J1 ++ J2 ++ J3)
      rw [p1] at e2
      rw [p2] at e4
      unfold L_ColorRestores_p1 L_ColorRestores_p1_b L_ColorRestores_p2 L_ColorRestores_p2_b L_ColorRestores_p3 L_ColorRestores_p3_b L_ColorRestores_p4 L_ColorRestores_p4_b
      by_cases ht : t = 1 ∨ t = 2
      · obtain ⟨J5, e5⟩ := Forward_eq t d d d (H ++ [some ⟨[.int .i64 a, .int .i64 b, .int .i64 c], false, 0⟩] ++ J1 ++ J2 ++ J3 ++ J4)
        obtain ⟨J6, e6⟩ := Forward_eq t (W (a + d)) (W (b + d)) (W (c + d)) (H ++ [some ⟨[.int .i64 a, .int .i64 b, .int .i64 c], false, 0⟩] ++ J1 ++ J2 ++ J3 ++ J4 ++ J5)
        rw [fwd_gray ht rd] at e5
        rw [fwd_shift ht ra rb rc rd] at e6
        have ht' : (bif (t != 1) then t != 2 else false) = false := by rcases ht with rfl | rfl <;> rfl
        rcases ht with rfl | rfl
        · have k1 : ((1 : Int) != 1) = false := rfl
          simp (disch := (first | assumption | omega | exact Nat.le_of_ble_eq_true rfl | (simp only [List.length_append, List.length_cons, List.length_nil]; omega))) only [bounded_eq, d1, d2, Bool.not_true, e1, e2, e3, e4, bne_self_eq_false, k1, e5, e6, beq_self_eq_true, fin, hal_x, hcell_new, hcell_old, hidx_x, hfad_x, hnil_x, ldI_x, ldB_x, ldP_x, ldL_x, pad_some, get0, gets, ik64, ik8, ik32, iku64, cond_true, cond_false, hst_new, hst_old, splice_cc, splice_nn, one_n, one_i, one_b, one_p, one_s, one_t, Int.toNat_zero, Int.toNat_one, tn2, tn3, Nat.mul_one, Nat.zero_add, Nat.zero_mul, Nat.add_zero]
        · have k1 : ((2 : Int) != 1) = true := rfl
          simp (disch := (first | assumption | omega | exact Nat.le_of_ble_eq_true rfl | (simp only [List.length_append, List.length_cons, List.length_nil]; omega))) only [bounded_eq, d1, d2, Bool.not_true, e1, e2, e3, e4, bne_self_eq_false, k1, e5, e6, beq_self_eq_true, fin, hal_x, hcell_new, hcell_old, hidx_x, hfad_x, hnil_x, ldI_x, ldB_x, ldP_x, ldL_x, pad_some, get0, gets, ik64, ik8, ik32, iku64, cond_true, cond_false, hst_new, hst_old, splice_cc, splice_nn, one_n, one_i, one_b, one_p, one_s, one_t, Int.toNat_zero, Int.toNat_one, tn2, tn3, Nat.mul_one, Nat.zero_add, Nat.zero_mul, Nat.add_zero]
      · have k1 : (t != 1) = true := by simp; omega
        have k2 : (t != 2) = true := by simp; omega
        simp (disch := (first | assumption | omega | exact Nat.le_of_ble_eq_true rfl | (simp only [List.length_append, List.length_cons, List.length_nil]; omega))) only [bounded_eq, d1, d2, Bool.not_true, e1, e2, e3, e4, bne_self_eq_false, k1, k2, fin, hal_x, hcell_new, hcell_old, hidx_x, hfad_x, hnil_x, ldI_x, ldB_x, ldP_x, ldL_x, pad_some, get0, gets, ik64, ik8, ik32, iku64, cond_true, cond_false, hst_new, hst_old, splice_cc, splice_nn, one_n, one_i, one_b, one_p, one_s, one_t, Int.toNat_zero, Int.toNat_one, tn2, tn3, Nat.mul_one, Nat.zero_add, Nat.zero_mul, Nat.add_zero]
end Go.Proofs.Ytoeoolnkndkefaa.Sh
