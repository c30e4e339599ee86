/- Color: planes that are valid, ranges and offsets. -/
import Derived.Test.YtoeoolnkndkefaaClC
import Derived.Test.YtoeoolnkndkefaaSh3
import Derived.Test.YtoeoolnkndkefaaSh6
import Derived.Test.YtoeoolnkndkefaaSh16
set_option linter.unusedVariables false
set_option linter.unusedSimpArgs false
namespace Go.Proofs.Ytoeoolnkndkefaa.Sh
open Go.Proofs.Ytoeoolnkndkefaa.FW
def rv (x0 y0 x1 y1 : Int) : Bool := decide (0 ≤ x0) && (decide (x0 ≤ x1) && (decide (x1 ≤ 4096) && (decide (0 ≤ y0) && (decide (y0 ≤ y1) && decide (y1 ≤ 4096)))))
theorem rv_of {x0 y0 x1 y1 : Int} (h : rv x0 y0 x1 y1 = true) : 0 ≤ x0 ∧ x0 ≤ x1 ∧ x1 ≤ 4096 ∧ 0 ≤ y0 ∧ y0 ≤ y1 ∧ y1 ≤ 4096 := by
  unfold rv at h
  simp only [Bool.and_eq_true, decide_eq_true_eq] at h
  omega
theorem rv_step (b1 b2 b3 b4 b5 b6 : Bool) {R : Type} (K : Bool → Option R) : (bif b1 then (bif b2 then (bif b3 then (bif b4 then (bif b5 then K b6 else K false) else K false) else K false) else K false) else K false) = K (b1 && (b2 && (b3 && (b4 && (b5 && b6))))) := by
  cases b1 <;> cases b2 <;> cases b3 <;> cases b4 <;> cases b5 <;> rfl
theorem rectValid_eq (x0 y0 x1 y1 : Int) (H : Heap) : ∃ J, ∀ (R : Type) (K : Bool → Heap → Option R), rect_Valid x0 y0 x1 y1 H K = K (rv x0 y0 x1 y1) (H ++ J) := by
  refine ⟨?J1, fun R K => ?M1⟩
  case M1 =>
    unfold rect_Valid rect_Valid_b rv
    simp (disch := (first | assumption | omega | exact Nat.le_of_ble_eq_true rfl | (simp only [List.length_append, List.length_cons, List.length_nil]; omega))) only [hal_x, hcell_new, hcell_old, hidx_x, hfad_x, hnil_x, ldI_x, ldB_x, ldP_x, ldL_x, pad_some, get0, gets, ik64, ik8, ik32, iku64, cond_true, cond_false, hst_new, hst_old, splice_cc, splice_nn, one_n, one_i, one_b, one_p, one_s, one_t, Int.toNat_zero, Int.toNat_one, tn2, tn3, Nat.mul_one, Nat.zero_add, Nat.zero_mul, Nat.add_zero]
    exact rv_step _ _ _ _ _ _ (fun t => K t _)
theorem rectValidR_eq (x0 y0 x1 y1 : Int) (H : Heap) : ∃ J, ∀ (R : Type) (K : Bool → Heap → Option R), R01_Valid x0 y0 x1 y1 H K = K (rv x0 y0 x1 y1) (H ++ J) := by
  refine ⟨?J2, fun R K => ?M2⟩
  case M2 =>
    unfold R01_Valid R01_Valid_b rv
    simp (disch := (first | assumption | omega | exact Nat.le_of_ble_eq_true rfl | (simp only [List.length_append, List.length_cons, List.length_nil]; omega))) only [hal_x, hcell_new, hcell_old, hidx_x, hfad_x, hnil_x, ldI_x, ldB_x, ldP_x, ldL_x, pad_some, get0, gets, ik64, ik8, ik32, iku64, cond_true, cond_false, hst_new, hst_old, splice_cc, splice_nn, one_n, one_i, one_b, one_p, one_s, one_t, Int.toNat_zero, Int.toNat_one, tn2, tn3, Nat.mul_one, Nat.zero_add, Nat.zero_mul, Nat.add_zero]
    exact rv_step _ _ _ _ _ _ (fun t => K t _)
def ra (x0 y0 x1 y1 : Int) : Int := bif rv x0 y0 x1 y1 then W (W (x1 - x0) * W (y1 - y0)) else 0
theorem rectArea_eq (x0 y0 x1 y1 : Int) (H : Heap) : ∃ J, ∀ (R : Type) (K : Int → Heap → Option R), rect_Area x0 y0 x1 y1 H K = K (ra x0 y0 x1 y1) (H ++ J) := by
  obtain ⟨J1, e1⟩ := rectValid_eq x0 y0 x1 y1 (H ++ [some ⟨[.int .i64 x0, .int .i64 y0, .int .i64 x1, .int .i64 y1], false, 0⟩])
  unfold ra
  cases h : rv x0 y0 x1 y1 with
  | true =>
    rw [h] at e1
    refine ⟨?J3, fun R K => ?M3⟩
    case M3 =>
      unfold rect_Area rect_Area_b
      simp (disch := (first | assumption | omega | exact Nat.le_of_ble_eq_true rfl | (simp only [List.length_append, List.length_cons, List.length_nil]; omega))) only [e1, Bool.not_true, hal_x, hcell_new, hcell_old, hidx_x, hfad_x, hnil_x, ldI_x, ldB_x, ldP_x, ldL_x, pad_some, get0, gets, ik64, ik8, ik32, iku64, cond_true, cond_false, hst_new, hst_old, splice_cc, splice_nn, one_n, one_i, one_b, one_p, one_s, one_t, Int.toNat_zero, Int.toNat_one, tn2, tn3, Nat.mul_one, Nat.zero_add, Nat.zero_mul, Nat.add_zero]
      simp only [List.append_assoc]
      rfl
  | false =>
    rw [h] at e1
    refine ⟨?J4, fun R K => ?M4⟩
    case M4 =>
      unfold rect_Area rect_Area_b
      simp (disch := (first | assumption | omega | exact Nat.le_of_ble_eq_true rfl | (simp only [List.length_append, List.length_cons, List.length_nil]; omega))) only [e1, Bool.not_false, hal_x, hcell_new, hcell_old, hidx_x, hfad_x, hnil_x, ldI_x, ldB_x, ldP_x, ldL_x, pad_some, get0, gets, ik64, ik8, ik32, iku64, cond_true, cond_false, hst_new, hst_old, splice_cc, splice_nn, one_n, one_i, one_b, one_p, one_s, one_t, Int.toNat_zero, Int.toNat_one, tn2, tn3, Nat.mul_one, Nat.zero_add, Nat.zero_mul, Nat.add_zero]
      simp only [List.append_assoc]
      rfl
theorem rectAreaR_eq (x0 y0 x1 y1 : Int) (H : Heap) : ∃ J, ∀ (R : Type) (K : Int → Heap → Option R), R01_Area x0 y0 x1 y1 H K = K (ra x0 y0 x1 y1) (H ++ J) := by
  obtain ⟨J1, e1⟩ := rectValidR_eq x0 y0 x1 y1 (H ++ [some ⟨[.int .i64 x0, .int .i64 y0, .int .i64 x1, .int .i64 y1], false, 0⟩])
  unfold ra
  cases h : rv x0 y0 x1 y1 with
  | true =>
    rw [h] at e1
    refine ⟨?J5, fun R K => ?M5⟩
    case M5 =>
      unfold R01_Area R01_Area_b
      simp (disch := (first | assumption | omega | exact Nat.le_of_ble_eq_true rfl | (simp only [List.length_append, List.length_cons, List.length_nil]; omega))) only [e1, Bool.not_true, hal_x, hcell_new, hcell_old, hidx_x, hfad_x, hnil_x, ldI_x, ldB_x, ldP_x, ldL_x, pad_some, get0, gets, ik64, ik8, ik32, iku64, cond_true, cond_false, hst_new, hst_old, splice_cc, splice_nn, one_n, one_i, one_b, one_p, one_s, one_t, Int.toNat_zero, Int.toNat_one, tn2, tn3, Nat.mul_one, Nat.zero_add, Nat.zero_mul, Nat.add_zero]
      simp only [List.append_assoc]
      rfl
  | false =>
    rw [h] at e1
    refine ⟨?J6, fun R K => ?M6⟩
    case M6 =>
      unfold R01_Area R01_Area_b
      simp (disch := (first | assumption | omega | exact Nat.le_of_ble_eq_true rfl | (simp only [List.length_append, List.length_cons, List.length_nil]; omega))) only [e1, Bool.not_false, hal_x, hcell_new, hcell_old, hidx_x, hfad_x, hnil_x, ldI_x, ldB_x, ldP_x, ldL_x, pad_some, get0, gets, ik64, ik8, ik32, iku64, cond_true, cond_false, hst_new, hst_old, splice_cc, splice_nn, one_n, one_i, one_b, one_p, one_s, one_t, Int.toNat_zero, Int.toNat_one, tn2, tn3, Nat.mul_one, Nat.zero_add, Nat.zero_mul, Nat.add_zero]
      simp only [List.append_assoc]
      rfl
/-- A valid plane. -/
def pv (x0 y0 x1 y1 : Int) (l : Nat) : Bool := rv x0 y0 x1 y1 && (decide (ra x0 y0 x1 y1 ≤ 1048576) && (((l : Nat) : Int) == ra x0 y0 x1 y1))
theorem planeValid_eq (x0 y0 x1 y1 : Int) (q : Option Addr) (l c : Nat) (H : Heap) : ∃ J, ∀ (R : Type) (K : Bool → Heap → Option R), plane_Valid x0 y0 x1 y1 q l c H K = K (pv x0 y0 x1 y1 l) (H ++ J) := by
  obtain ⟨J1, e1⟩ := rectValid_eq x0 y0 x1 y1 (H ++ [some ⟨[.int .i64 x0, .int .i64 y0, .int .i64 x1, .int .i64 y1, .slice q l c], false, 0⟩])
  obtain ⟨J2, e2⟩ := rectArea_eq x0 y0 x1 y1 (H ++ [some ⟨[.int .i64 x0, .int .i64 y0, .int .i64 x1, .int .i64 y1, .slice q l c], false, 0⟩] ++ J1)
  obtain ⟨J3, e3⟩ := rectArea_eq x0 y0 x1 y1 (roH (H ++ [some ⟨[.int .i64 x0, .int .i64 y0, .int .i64 x1, .int .i64 y1, .slice q l c], false, 0⟩] ++ J1 ++ J2))
  unfold pv
  cases h : rv x0 y0 x1 y1 with
  | true =>
    rw [h] at e1
    cases h2 : decide (ra x0 y0 x1 y1 ≤ 1048576) with
    | true =>
      refine ⟨?J7, fun R K => ?M7⟩
      case M7 =>
        unfold plane_Valid plane_Valid_b
        simp (disch := (first | assumption | omega | exact Nat.le_of_ble_eq_true rfl | (simp only [List.length_append, List.length_cons, List.length_nil]; omega))) only [e1, e2, e3, h2, Bool.true_and, hal_x, hcell_new, hcell_old, hidx_x, hfad_x, hnil_x, ldI_x, ldB_x, ldP_x, ldL_x, pad_some, get0, gets, ik64, ik8, ik32, iku64, cond_true, cond_false, hst_new, hst_old, splice_cc, splice_nn, one_n, one_i, one_b, one_p, one_s, one_t, Int.toNat_zero, Int.toNat_one, tn2, tn3, Nat.mul_one, Nat.zero_add, Nat.zero_mul, Nat.add_zero]
        simp only [List.append_assoc]
        rfl
    | false =>
      refine ⟨?J8, fun R K => ?M8⟩
      case M8 =>
        unfold plane_Valid plane_Valid_b
        simp (disch := (first | assumption | omega | exact Nat.le_of_ble_eq_true rfl | (simp only [List.length_append, List.length_cons, List.length_nil]; omega))) only [e1, e2, e3, h2, Bool.true_and, Bool.false_and, hal_x, hcell_new, hcell_old, hidx_x, hfad_x, hnil_x, ldI_x, ldB_x, ldP_x, ldL_x, pad_some, get0, gets, ik64, ik8, ik32, iku64, cond_true, cond_false, hst_new, hst_old, splice_cc, splice_nn, one_n, one_i, one_b, one_p, one_s, one_t, Int.toNat_zero, Int.toNat_one, tn2, tn3, Nat.mul_one, Nat.zero_add, Nat.zero_mul, Nat.add_zero]
        simp only [List.append_assoc]
        rfl
  | false =>
    rw [h] at e1
    refine ⟨?J9, fun R K => ?M9⟩
    case M9 =>
      unfold plane_Valid plane_Valid_b
      simp (disch := (first | assumption | omega | exact Nat.le_of_ble_eq_true rfl | (simp only [List.length_append, List.length_cons, List.length_nil]; omega))) only [e1, Bool.false_and, hal_x, hcell_new, hcell_old, hidx_x, hfad_x, hnil_x, ldI_x, ldB_x, ldP_x, ldL_x, pad_some, get0, gets, ik64, ik8, ik32, iku64, cond_true, cond_false, hst_new, hst_old, splice_cc, splice_nn, one_n, one_i, one_b, one_p, one_s, one_t, Int.toNat_zero, Int.toNat_one, tn2, tn3, Nat.mul_one, Nat.zero_add, Nat.zero_mul, Nat.add_zero]
      simp only [List.append_assoc]
      rfl
theorem planeValidR_eq (x0 y0 x1 y1 : Int) (q : Option Addr) (l c : Nat) (H : Heap) : ∃ J, ∀ (R : Type) (K : Bool → Heap → Option R), R02_Valid x0 y0 x1 y1 q l c H K = K (pv x0 y0 x1 y1 l) (H ++ J) := by
  obtain ⟨J1, e1⟩ := rectAreaR_eq x0 y0 x1 y1 (H ++ [some ⟨[.int .i64 x0, .int .i64 y0, .int .i64 x1, .int .i64 y1, .slice q l c], false, 0⟩])
  obtain ⟨J2, e2⟩ := rectValidR_eq x0 y0 x1 y1 (H ++ [some ⟨[.int .i64 x0, .int .i64 y0, .int .i64 x1, .int .i64 y1, .slice q l c], false, 0⟩] ++ J1)
  unfold pv
  cases h : rv x0 y0 x1 y1 with
  | true =>
    rw [h] at e2
    cases h2 : decide (ra x0 y0 x1 y1 ≤ 1048576) with
    | true =>
      refine ⟨?J10, fun R K => ?M10⟩
      case M10 =>
        unfold R02_Valid R02_Valid_b
        simp (disch := (first | assumption | omega | exact Nat.le_of_ble_eq_true rfl | (simp only [List.length_append, List.length_cons, List.length_nil]; omega))) only [e1, e2, h2, Bool.true_and, hal_x, hcell_new, hcell_old, hidx_x, hfad_x, hnil_x, ldI_x, ldB_x, ldP_x, ldL_x, pad_some, get0, gets, ik64, ik8, ik32, iku64, cond_true, cond_false, hst_new, hst_old, splice_cc, splice_nn, one_n, one_i, one_b, one_p, one_s, one_t, Int.toNat_zero, Int.toNat_one, tn2, tn3, Nat.mul_one, Nat.zero_add, Nat.zero_mul, Nat.add_zero]
        simp only [List.append_assoc]
        rfl
    | false =>
      refine ⟨?J11, fun R K => ?M11⟩
      case M11 =>
        unfold R02_Valid R02_Valid_b
        simp (disch := (first | assumption | omega | exact Nat.le_of_ble_eq_true rfl | (simp only [List.length_append, List.length_cons, List.length_nil]; omega))) only [e1, e2, h2, Bool.true_and, Bool.false_and, hal_x, hcell_new, hcell_old, hidx_x, hfad_x, hnil_x, ldI_x, ldB_x, ldP_x, ldL_x, pad_some, get0, gets, ik64, ik8, ik32, iku64, cond_true, cond_false, hst_new, hst_old, splice_cc, splice_nn, one_n, one_i, one_b, one_p, one_s, one_t, Int.toNat_zero, Int.toNat_one, tn2, tn3, Nat.mul_one, Nat.zero_add, Nat.zero_mul, Nat.add_zero]
        simp only [List.append_assoc]
        rfl
  | false =>
    rw [h] at e2
    refine ⟨?J12, fun R K => ?M12⟩
    case M12 =>
      unfold R02_Valid R02_Valid_b
      simp (disch := (first | assumption | omega | exact Nat.le_of_ble_eq_true rfl | (simp only [List.length_append, List.length_cons, List.length_nil]; omega))) only [e1, e2, Bool.false_and, hal_x, hcell_new, hcell_old, hidx_x, hfad_x, hnil_x, ldI_x, ldB_x, ldP_x, ldL_x, pad_some, get0, gets, ik64, ik8, ik32, iku64, cond_true, cond_false, hst_new, hst_old, splice_cc, splice_nn, one_n, one_i, one_b, one_p, one_s, one_t, Int.toNat_zero, Int.toNat_one, tn2, tn3, Nat.mul_one, Nat.zero_add, Nat.zero_mul, Nat.add_zero]
      simp only [List.append_assoc]
      rfl
/-- The range of a component. -/
def lo (d : Int) (s : Bool) : Int := bif dp d then (bif s then -(p2 (d - 1)) else 0) else 0
def hi (d : Int) (s : Bool) : Int := bif dp d then (bif s then p2 (d - 1) - 1 else p2 d - 1) else 0
def off (d : Int) (s : Bool) : Int := bif s then 0 else p2 (d - 1)
theorem Range_eq (d : Int) (s : Bool) (x y : Int) (H : Heap) : ∃ J, ∀ (R : Type) (K : Int → Int → Heap → Option R), color_Range d s x y H K = K (lo d s) (hi d s) (H ++ J) := by
  unfold lo hi
  cases hd : dp d with
  | false =>
    refine ⟨?J13, fun R K => ?M13⟩
    case M13 =>
      unfold color_Range color_Range_b
      simp (disch := (first | assumption | omega | exact Nat.le_of_ble_eq_true rfl | (simp only [List.length_append, List.length_cons, List.length_nil]; omega))) only [deep_eq, hd, Bool.not_false, hal_x, hcell_new, hcell_old, hidx_x, hfad_x, hnil_x, ldI_x, ldB_x, ldP_x, ldL_x, pad_some, get0, gets, ik64, ik8, ik32, iku64, cond_true, cond_false, hst_new, hst_old, splice_cc, splice_nn, one_n, one_i, one_b, one_p, one_s, one_t, Int.toNat_zero, Int.toNat_one, tn2, tn3, Nat.mul_one, Nat.zero_add, Nat.zero_mul, Nat.add_zero]
      rfl
  | true =>
    have := dp_of hd
    have b1 := p2_le (n := d) (by omega)
    have b2 := p2_le (n := d - 1) (by omega)
    have b3 := p2_pos d
    have b4 := p2_pos (d - 1)
    have w1 : IntKind.wrap .i64 (d - 1) = d - 1 := w64 (by omega) (by omega)
    have w2 : IntKind.wrap .i64 (p2 (d - 1) - 1) = p2 (d - 1) - 1 := w64 (by omega) (by omega)
    have w3 : IntKind.wrap .i64 (p2 d - 1) = p2 d - 1 := w64 (by omega) (by omega)
    have s1 : ∀ (R : Type) (K : Int → Option R), hbin .shl .i64 1 (d - 1) K = K (p2 (d - 1)) := fun R K => shl_eq (by omega) (by omega) K
    have s2 : ∀ (R : Type) (K : Int → Option R), hbin .shl .i64 (-1) (d - 1) K = K (-(p2 (d - 1))) := fun R K => shm_eq (by omega) (by omega) K
    have s3 : ∀ (R : Type) (K : Int → Option R), hbin .shl .i64 1 d K = K (p2 d) := fun R K => shl_eq (by omega) (by omega) K
    cases s with
    | true =>
      refine ⟨?J14, fun R K => ?M14⟩
      case M14 =>
        unfold color_Range color_Range_b
        simp (disch := (first | assumption | omega | exact Nat.le_of_ble_eq_true rfl | (simp only [List.length_append, List.length_cons, List.length_nil]; omega))) only [deep_eq, hd, Bool.not_true, w1, s1, s2, w2, hal_x, hcell_new, hcell_old, hidx_x, hfad_x, hnil_x, ldI_x, ldB_x, ldP_x, ldL_x, pad_some, get0, gets, ik64, ik8, ik32, iku64, cond_true, cond_false, hst_new, hst_old, splice_cc, splice_nn, one_n, one_i, one_b, one_p, one_s, one_t, Int.toNat_zero, Int.toNat_one, tn2, tn3, Nat.mul_one, Nat.zero_add, Nat.zero_mul, Nat.add_zero]
        rfl
    | false =>
      refine ⟨?J15, fun R K => ?M15⟩
      case M15 =>
        unfold color_Range color_Range_b
        simp (disch := (first | assumption | omega | exact Nat.le_of_ble_eq_true rfl | (simp only [List.length_append, List.length_cons, List.length_nil]; omega))) only [deep_eq, hd, Bool.not_true, s3, w3, hal_x, hcell_new, hcell_old, hidx_x, hfad_x, hnil_x, ldI_x, ldB_x, ldP_x, ldL_x, pad_some, get0, gets, ik64, ik8, ik32, iku64, cond_true, cond_false, hst_new, hst_old, splice_cc, splice_nn, one_n, one_i, one_b, one_p, one_s, one_t, Int.toNat_zero, Int.toNat_one, tn2, tn3, Nat.mul_one, Nat.zero_add, Nat.zero_mul, Nat.add_zero]
        rfl
theorem RangeR_eq (k : Nat) (hk : 70 < k) (d : Int) (s : Bool) (x y : Int) (H : Heap) : ∃ J, ∀ (R : Type) (K : Int → Int → Heap → Option R), R07_Range k d s x y H K = K (lo d s) (hi d s) (H ++ J) := by
  unfold lo hi
  cases hd : dp d with
  | false =>
    by_cases c1 : d < 1
    · have e1 : decide (d < 1) = true := decide_eq_true c1
      refine ⟨?J16, fun R K => ?M16⟩
      case M16 =>
        unfold R07_Range R07_Range_b R07_Range_p0 R07_Range_p0_b
        simp (disch := (first | assumption | omega | exact Nat.le_of_ble_eq_true rfl | (simp only [List.length_append, List.length_cons, List.length_nil]; omega))) only [e1, hal_x, hcell_new, hcell_old, hidx_x, hfad_x, hnil_x, ldI_x, ldB_x, ldP_x, ldL_x, pad_some, get0, gets, ik64, ik8, ik32, iku64, cond_true, cond_false, hst_new, hst_old, splice_cc, splice_nn, one_n, one_i, one_b, one_p, one_s, one_t, Int.toNat_zero, Int.toNat_one, tn2, tn3, Nat.mul_one, Nat.zero_add, Nat.zero_mul, Nat.add_zero]
        rfl
    · have e1 : decide (d < 1) = false := decide_eq_false c1
      have e2 : decide (d > 16) = true := by
        unfold dp at hd
        simp only [Bool.and_eq_false_iff, decide_eq_false_iff_not] at hd
        exact decide_eq_true (by omega)
      refine ⟨?J17, fun R K => ?M17⟩
      case M17 =>
        unfold R07_Range R07_Range_b R07_Range_p0 R07_Range_p0_b
        simp (disch := (first | assumption | omega | exact Nat.le_of_ble_eq_true rfl | (simp only [List.length_append, List.length_cons, List.length_nil]; omega))) only [e1, e2, hal_x, hcell_new, hcell_old, hidx_x, hfad_x, hnil_x, ldI_x, ldB_x, ldP_x, ldL_x, pad_some, get0, gets, ik64, ik8, ik32, iku64, cond_true, cond_false, hst_new, hst_old, splice_cc, splice_nn, one_n, one_i, one_b, one_p, one_s, one_t, Int.toNat_zero, Int.toNat_one, tn2, tn3, Nat.mul_one, Nat.zero_add, Nat.zero_mul, Nat.add_zero]
        rfl
  | true =>
    have := dp_of hd
    have b2 := p2_le (n := d - 1) (by omega)
    have b4 := p2_pos (d - 1)
    have b5 := p2_succ (n := d) (by omega)
    have e1 : decide (d < 1) = false := decide_eq_false (by omega)
    have e2 : decide (d > 16) = false := decide_eq_false (by omega)
    have w1 : IntKind.wrap .i64 (d - 1) = d - 1 := w64 (by omega) (by omega)
    have w2 : IntKind.wrap .i64 (p2 (d - 1) - 1) = p2 (d - 1) - 1 := w64 (by omega) (by omega)
    have w3 : IntKind.wrap .i64 (2 * p2 (d - 1)) = p2 d := by rw [b5]; exact w64 (by omega) (by omega)
    have w4 : IntKind.wrap .i64 (p2 d - 1) = p2 d - 1 := w64 (by omega) (by omega)
    have w5 : IntKind.wrap .i64 (0 - p2 (d - 1)) = -(p2 (d - 1)) := by rw [w64 (by omega) (by omega)]; omega
    have s1 : ∀ (R : Type) (K : Int → Option R), R07_power k (d - 1) K = K (p2 (d - 1)) := fun R K => power_eq k hk (by omega) (by omega) K
    cases s with
    | true =>
      refine ⟨?J18, fun R K => ?M18⟩
      case M18 =>
        unfold R07_Range R07_Range_b R07_Range_p0 R07_Range_p0_b
        simp (disch := (first | assumption | omega | exact Nat.le_of_ble_eq_true rfl | (simp only [List.length_append, List.length_cons, List.length_nil]; omega))) only [e1, e2, w1, s1, w2, w5, hal_x, hcell_new, hcell_old, hidx_x, hfad_x, hnil_x, ldI_x, ldB_x, ldP_x, ldL_x, pad_some, get0, gets, ik64, ik8, ik32, iku64, cond_true, cond_false, hst_new, hst_old, splice_cc, splice_nn, one_n, one_i, one_b, one_p, one_s, one_t, Int.toNat_zero, Int.toNat_one, tn2, tn3, Nat.mul_one, Nat.zero_add, Nat.zero_mul, Nat.add_zero]
        rfl
    | false =>
      refine ⟨?J19, fun R K => ?M19⟩
      case M19 =>
        unfold R07_Range R07_Range_b R07_Range_p0 R07_Range_p0_b
        simp (disch := (first | assumption | omega | exact Nat.le_of_ble_eq_true rfl | (simp only [List.length_append, List.length_cons, List.length_nil]; omega))) only [e1, e2, w1, s1, w3, w4, hal_x, hcell_new, hcell_old, hidx_x, hfad_x, hnil_x, ldI_x, ldB_x, ldP_x, ldL_x, pad_some, get0, gets, ik64, ik8, ik32, iku64, cond_true, cond_false, hst_new, hst_old, splice_cc, splice_nn, one_n, one_i, one_b, one_p, one_s, one_t, Int.toNat_zero, Int.toNat_one, tn2, tn3, Nat.mul_one, Nat.zero_add, Nat.zero_mul, Nat.add_zero]
        rfl
theorem offset_eq {d : Int} (hd : dp d = true) (s : Bool) (x y : Int) (H : Heap) : ∃ J, ∀ (R : Type) (K : Int → Heap → Option R), color_offset d s x y H K = K (off d s) (H ++ J) := by
  unfold off
  have := dp_of hd
  have w1 : IntKind.wrap .i64 (d - 1) = d - 1 := w64 (by omega) (by omega)
  have s1 : ∀ (R : Type) (K : Int → Option R), hbin .shl .i64 1 (d - 1) K = K (p2 (d - 1)) := fun R K => shl_eq (by omega) (by omega) K
  cases s with
  | true =>
    refine ⟨?J20, fun R K => ?M20⟩
    case M20 =>
      unfold color_offset color_offset_b
      simp (disch := (first | assumption | omega | exact Nat.le_of_ble_eq_true rfl | (simp only [List.length_append, List.length_cons, List.length_nil]; omega))) only [w1, s1, hal_x, hcell_new, hcell_old, hidx_x, hfad_x, hnil_x, ldI_x, ldB_x, ldP_x, ldL_x, pad_some, get0, gets, ik64, ik8, ik32, iku64, cond_true, cond_false, hst_new, hst_old, splice_cc, splice_nn, one_n, one_i, one_b, one_p, one_s, one_t, Int.toNat_zero, Int.toNat_one, tn2, tn3, Nat.mul_one, Nat.zero_add, Nat.zero_mul, Nat.add_zero]
      rfl
  | false =>
    refine ⟨?J21, fun R K => ?M21⟩
    case M21 =>
      unfold color_offset color_offset_b
      simp (disch := (first | assumption | omega | exact Nat.le_of_ble_eq_true rfl | (simp only [List.length_append, List.length_cons, List.length_nil]; omega))) only [w1, s1, hal_x, hcell_new, hcell_old, hidx_x, hfad_x, hnil_x, ldI_x, ldB_x, ldP_x, ldL_x, pad_some, get0, gets, ik64, ik8, ik32, iku64, cond_true, cond_false, hst_new, hst_old, splice_cc, splice_nn, one_n, one_i, one_b, one_p, one_s, one_t, Int.toNat_zero, Int.toNat_one, tn2, tn3, Nat.mul_one, Nat.zero_add, Nat.zero_mul, Nat.add_zero]
      rfl
theorem offsetR_eq (k : Nat) (hk : 70 < k) {d : Int} (hd : dp d = true) (s : Bool) (x y : Int) (H : Heap) : ∃ J, ∀ (R : Type) (K : Int → Heap → Option R), R07_Offset k d s x y H K = K (off d s) (H ++ J) := by
  unfold off
  have := dp_of hd
  have w1 : IntKind.wrap .i64 (d - 1) = d - 1 := w64 (by omega) (by omega)
  have s1 : ∀ (R : Type) (K : Int → Option R), R07_power k (d - 1) K = K (p2 (d - 1)) := fun R K => power_eq k hk (by omega) (by omega) K
  cases s with
  | true =>
    refine ⟨?J22, fun R K => ?M22⟩
    case M22 =>
      unfold R07_Offset R07_Offset_b
      simp (disch := (first | assumption | omega | exact Nat.le_of_ble_eq_true rfl | (simp only [List.length_append, List.length_cons, List.length_nil]; omega))) only [w1, s1, hal_x, hcell_new, hcell_old, hidx_x, hfad_x, hnil_x, ldI_x, ldB_x, ldP_x, ldL_x, pad_some, get0, gets, ik64, ik8, ik32, iku64, cond_true, cond_false, hst_new, hst_old, splice_cc, splice_nn, one_n, one_i, one_b, one_p, one_s, one_t, Int.toNat_zero, Int.toNat_one, tn2, tn3, Nat.mul_one, Nat.zero_add, Nat.zero_mul, Nat.add_zero]
      rfl
  | false =>
    refine ⟨?J23, fun R K => ?M23⟩
    case M23 =>
      unfold R07_Offset R07_Offset_b
      simp (disch := (first | assumption | omega | exact Nat.le_of_ble_eq_true rfl | (simp only [List.length_append, List.length_cons, List.length_nil]; omega))) only [w1, s1, hal_x, hcell_new, hcell_old, hidx_x, hfad_x, hnil_x, ldI_x, ldB_x, ldP_x, ldL_x, pad_some, get0, gets, ik64, ik8, ik32, iku64, cond_true, cond_false, hst_new, hst_old, splice_cc, splice_nn, one_n, one_i, one_b, one_p, one_s, one_t, Int.toNat_zero, Int.toNat_one, tn2, tn3, Nat.mul_one, Nat.zero_add, Nat.zero_mul, Nat.add_zero]
      rfl
theorem few1_eq (x0 y0 x1 y1 : Int) (q : Option Addr) (l c : Nat) (H : Heap) : ∃ J, ∀ (R : Type) (K : Bool → Heap → Option R), R02_Few x0 y0 x1 y1 q l c H K = K (decide (l ≤ 400)) (H ++ J) := by
  have e : decide (((l : Nat) : Int) ≤ 400) = decide (l ≤ 400) := decide_eq_decide.2 (by omega)
  refine ⟨?J24, fun R K => ?M24⟩
  case M24 =>
    unfold R02_Few R02_Few_b
    simp (disch := (first | assumption | omega | exact Nat.le_of_ble_eq_true rfl | (simp only [List.length_append, List.length_cons, List.length_nil]; omega))) only [e, hal_x, hcell_new, hcell_old, hidx_x, hfad_x, hnil_x, ldI_x, ldB_x, ldP_x, ldL_x, pad_some, get0, gets, ik64, ik8, ik32, iku64, cond_true, cond_false, hst_new, hst_old, splice_cc, splice_nn, one_n, one_i, one_b, one_p, one_s, one_t, Int.toNat_zero, Int.toNat_one, tn2, tn3, Nat.mul_one, Nat.zero_add, Nat.zero_mul, Nat.add_zero]
    rfl
end Go.Proofs.Ytoeoolnkndkefaa.Sh
