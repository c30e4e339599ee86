/- Range, Shift and Unshift return what the reference returns. -/
import Derived.Test.YtoeoolnkndkefaaClH
import Derived.Test.YtoeoolnkndkefaaFwY
set_option linter.unusedVariables false
set_option linter.unusedSimpArgs false
namespace Go.Proofs.Ytoeoolnkndkefaa.Sh
open Go.Proofs.Ytoeoolnkndkefaa.FW
abbrev dRect : D := .pair (.int .i64) (.pair (.int .i64) (.pair (.int .i64) (.pair (.int .i64) .nil)))
abbrev dPlane : D := .pair dRect (.pair (.slc (.int .i64)) .nil)
abbrev dComp : D := .pair (.int .i64) (.pair .bool (.pair (.int .i64) (.pair (.int .i64) .nil)))
theorem ints_of {H : Heap} : ∀ (es : List (List Value)), (∀ e ∈ es, Shp (.int .i64) H e) → ∃ xs : List Int, xs.length = es.length ∧ es.flatten = ints xs ∧ ∀ v ∈ xs, -9223372036854775808 ≤ v ∧ v ≤ 9223372036854775807 := by
  intro es
  induction es with
  | nil => intro _; exact ⟨[], rfl, rfl, fun v h => by cases h⟩
  | cons e es ih =>
    intro h
    obtain ⟨xs, h1, h2, h3⟩ := ih fun x hx => h x (List.mem_cons_of_mem _ hx)
    obtain ⟨a, rfl, ha⟩ := h e (by simp)
    refine ⟨a :: xs, by simp [h1], by rw [List.flatten_cons, h2]; rfl, fun v hv => ?_⟩
    rcases List.mem_cons.1 hv with rfl | hv
    · exact wf_64 ha
    · exact h3 v hv
/-- A plane that came in. -/
theorem plane_of {H : Heap} {vs : List Value} (h : Shp dPlane H vs) : ∃ (x0 y0 x1 y1 : Int) (q : Option Addr) (xs : List Int) (c : Nat), vs = pl5 x0 y0 x1 y1 q xs.length c ∧ Shows H q (ints xs) ∧ ∀ v ∈ xs, -9223372036854775808 ≤ v ∧ v ≤ 9223372036854775807 := by
  obtain ⟨r, t, rfl, ⟨_, _, rfl, ⟨a, rfl, _⟩, _, _, rfl, ⟨b, rfl, _⟩, _, _, rfl, ⟨c, rfl, _⟩, _, y4, rfl, ⟨d, rfl, _⟩, hn⟩, _, y5, rfl, ⟨q, cc, es, rfl, _, _, he, hs⟩, hn2⟩ := h
  have hn' : y4 = [] := hn
  have hn2' : y5 = [] := hn2
  subst hn' hn2'
  obtain ⟨xs, g1, g2, g3⟩ := ints_of es he
  rw [g2] at hs
  exact ⟨a, b, c, d, q, xs, cc, by rw [g1]; rfl, hs, g3⟩
theorem comp_of {H : Heap} {vs : List Value} (h : Shp dComp H vs) : ∃ (d : Int) (s : Bool) (x y : Int), vs = cmp4 d s x y := by
  obtain ⟨_, _, rfl, ⟨a, rfl, _⟩, _, _, rfl, ⟨b, rfl⟩, _, _, rfl, ⟨c, rfl, _⟩, _, y4, rfl, ⟨d, rfl, _⟩, hn⟩ := h
  have hn' : y4 = [] := hn
  subst hn'
  exact ⟨a, b, c, d, rfl⟩
set_option maxHeartbeats 4000000 in
theorem shifts_in (H : Heap) (us : List Value) (h : AllLies H [(dPlane, true), (dComp, true)] us) : L_ColorShifts_c Bool 600 us H asB = some true := by
  obtain ⟨vs, _, rfl, hp, h1⟩ := lies_agg h
  obtain ⟨ws, _, rfl, hc, h2⟩ := lies_agg h1
  cases lies_nil h2
  obtain ⟨x0, y0, x1, y1, q, xs, c, rfl, hS, _⟩ := plane_of hp
  obtain ⟨d, s, x, y, rfl⟩ := comp_of hc
  show L_ColorShifts 600 x0 y0 x1 y1 q xs.length c d s x y H (fun t H => asB (.bool t) H) = some true
  have fin : ∀ (H : Heap), L_exampleHoldsq (fun t => asB (.bool t) H) = some true := fun H => rfl
  obtain ⟨H0, hH0⟩ : ∃ X : Heap, X = H ++ [some ⟨[.int .i64 x0, .int .i64 y0, .int .i64 x1, .int .i64 y1, .slice q xs.length c], false, 0⟩] ++ [some ⟨[.int .i64 d, .bool s, .int .i64 x, .int .i64 y], false, 0⟩] := ⟨_, rfl⟩
  obtain ⟨J1, e1⟩ := few1_eq x0 y0 x1 y1 q xs.length c H0
  have hA0 : Sees H0 H.length (pl5 x0 y0 x1 y1 q xs.length c) := ⟨⟨_, false, 0⟩, by rw [hH0]; simp (disch := (first | assumption | omega | exact Nat.le_of_ble_eq_true rfl | (simp only [List.length_append, List.length_cons, List.length_nil]; omega))) only [hblk_new, hblk_old], rfl⟩
  have hC0 : Sees H0 (H ++ [some (⟨[.int .i64 x0, .int .i64 y0, .int .i64 x1, .int .i64 y1, .slice q xs.length c], false, 0⟩ : Blk)]).length (cmp4 d s x y) := ⟨⟨_, false, 0⟩, by rw [hH0]; simp (disch := (first | assumption | omega | exact Nat.le_of_ble_eq_true rfl | (simp only [List.length_append, List.length_cons, List.length_nil]; omega))) only [hblk_new, hblk_old], rfl⟩
  have mA0 := hA0.cell
  have mC0 := hC0.cell
  unfold pl5 at mA0
  unfold cmp4 at mC0
  cases hf : decide (xs.length ≤ 400) with
  | false =>
    rw [hf] at e1
    unfold L_ColorShifts L_ColorShifts_b
    refine go_hal ?_
    refine go_halN hH0 ?_
    repeat (first | (with_reducible refine (e1 _ _).trans ?_) | ((with_reducible refine go_ip (x := ?_) ?_ ?_); rotate_left 1; (first | ((with_reducible refine (mA0 _).trans ?_); rfl) | ((with_reducible refine (mC0 _).trans ?_); rfl) | rfl)) | ((with_reducible refine go_bp (x := ?_) ?_ ?_); rotate_left 1; (first | ((with_reducible refine (mA0 _).trans ?_); rfl) | ((with_reducible refine (mC0 _).trans ?_); rfl) | rfl)) | ((with_reducible refine go_lp (x := ?_) (l := ?_) (c := ?_) ?_ ?_); rotate_left 3; (first | ((with_reducible refine (mA0 _).trans ?_); rfl) | ((with_reducible refine (mC0 _).trans ?_); rfl) | rfl)) | ((with_reducible refine go_pp (x := ?_) ?_ ?_); rotate_left 1; (first | ((with_reducible refine (mA0 _).trans ?_); rfl) | ((with_reducible refine (mC0 _).trans ?_); rfl) | rfl)) | ((with_reducible refine go_i (x := ?_) ?_ ?_); rotate_left 1; (first | ((with_reducible refine (mA0 _).trans ?_); rfl) | ((with_reducible refine (mC0 _).trans ?_); rfl) | rfl)) | ((with_reducible refine go_b (x := ?_) ?_ ?_); rotate_left 1; (first | ((with_reducible refine (mA0 _).trans ?_); rfl) | ((with_reducible refine (mC0 _).trans ?_); rfl) | rfl)) | ((with_reducible refine go_l (x := ?_) (l := ?_) (c := ?_) ?_ ?_); rotate_left 3; (first | ((with_reducible refine (mA0 _).trans ?_); rfl) | ((with_reducible refine (mC0 _).trans ?_); rfl) | rfl)) | ((with_reducible refine go_p (x := ?_) ?_ ?_); rotate_left 1; (first | ((with_reducible refine (mA0 _).trans ?_); rfl) | ((with_reducible refine (mC0 _).trans ?_); rfl) | rfl)) | (with_reducible refine go_hal ?_) | ((with_reducible refine go_t ?_ ?_); (show _ = true; rfl)) | ((with_reducible refine go_f ?_ ?_); (show _ = false; rfl)) | (with_reducible refine go_ne ?_) | (with_reducible refine go_eq ?_) | (with_reducible refine go_fad ?_) | (with_reducible refine go_nil ?_))
    exact fin _
  | true =>
    rw [hf] at e1
    have hl : xs.length ≤ 400 := of_decide_eq_true hf
    obtain ⟨J2, e2⟩ := Range_eq d s x y (H0 ++ J1)
    obtain ⟨J3, e3⟩ := RangeR_eq 600 (by omega) d s x y (H0 ++ J1 ++ J2)
    have hS3 : Shows (H0 ++ J1 ++ J2 ++ J3) q (ints xs) := hS.keep (by rw [hH0]; simp only [List.append_assoc]; exact Old.app _ _)
    obtain ⟨q4, c4, H4, e4, s4, o4⟩ := Shift_eq 600 (by omega) hS3 hl x0 y0 x1 y1 c d s x y
    have hA3 : Sees (H0 ++ J1 ++ J2 ++ J3) H.length (pl5 x0 y0 x1 y1 q xs.length c) := ⟨⟨_, false, 0⟩, by rw [hH0]; simp (disch := (first | assumption | omega | exact Nat.le_of_ble_eq_true rfl | (simp only [List.length_append, List.length_cons, List.length_nil]; omega))) only [hblk_new, hblk_old], rfl⟩
    have hC3 : Sees (H0 ++ J1 ++ J2 ++ J3) (H ++ [some (⟨[.int .i64 x0, .int .i64 y0, .int .i64 x1, .int .i64 y1, .slice q xs.length c], false, 0⟩ : Blk)]).length (cmp4 d s x y) := ⟨⟨_, false, 0⟩, by rw [hH0]; simp (disch := (first | assumption | omega | exact Nat.le_of_ble_eq_true rfl | (simp only [List.length_append, List.length_cons, List.length_nil]; omega))) only [hblk_new, hblk_old], rfl⟩
    generalize hr : shf x0 y0 x1 y1 xs d s = r4 at e4 s4
    have hl4 : r4.2.length ≤ 400 := by
      rw [← hr]; unfold shf
      cases pv x0 y0 x1 y1 xs.length <;> cases dp d <;> cases xs.any (bad d s) <;> simp [hl]
    have bl : (H ++ [some (⟨[.int .i64 x0, .int .i64 y0, .int .i64 x1, .int .i64 y1, .slice q xs.length c], false, 0⟩ : Blk)]).length = H.length + 1 := by simp
    have L3 : H.length + 2 ≤ (H0 ++ J1 ++ J2 ++ J3).length := by
      rw [hH0]
      simp only [List.length_append, List.length_cons, List.length_nil]; omega
    have L4 := o4.1
    -- behind Shift
    obtain ⟨H5, hH5⟩ : ∃ X, X = H4 ++ [some (⟨pl5 (zz r4.1 x0) (zz r4.1 y0) (zz r4.1 x1) (zz r4.1 y1) q4 r4.2.length c4, false, 0⟩ : Blk)] := ⟨_, rfl⟩
    have o5 : Old H4.length H4 H5 := by rw [hH5]; exact Old.app _ _
    have n5 : H5.length = H4.length + 1 := by rw [hH5]; simp
    have hP5 : Sees H5 H4.length (pl5 (zz r4.1 x0) (zz r4.1 y0) (zz r4.1 x1) (zz r4.1 y1) q4 r4.2.length c4) := ⟨_, by rw [hH5]; exact hblk_new _ _, rfl⟩
    have hS5 : Shows H5 q (ints xs) := (hS3.keep o4).keep o5
    obtain ⟨q6, c6, H6, e6, s6, o6⟩ := ShiftR_eq 600 (by omega) hS5 hl x0 y0 x1 y1 c d s x y
    rw [hr] at e6 s6
    have L6 := o6.1
    have hs46 : Shows H6 q4 (ints r4.2) := (s4.keep o5).keep o6
    obtain ⟨H7, hH7⟩ : ∃ X, X = H6 ++ [some (⟨pl5 (zz r4.1 x0) (zz r4.1 y0) (zz r4.1 x1) (zz r4.1 y1) q6 r4.2.length c6, false, 0⟩ : Blk)] := ⟨_, rfl⟩
    have o7 : Old H6.length H6 H7 := by rw [hH7]; exact Old.app _ _
    have n7 : H7.length = H6.length + 1 := by rw [hH7]; simp
    have hQ7 : Sees H7 H6.length (pl5 (zz r4.1 x0) (zz r4.1 y0) (zz r4.1 x1) (zz r4.1 y1) q6 r4.2.length c6) := ⟨_, by rw [hH7]; exact hblk_new _ _, rfl⟩
    obtain ⟨J8, e8⟩ := same_eq (k := 600) (by omega) c4 c6 (hs46.keep o7) (s6.keep o7) hl4 (zz r4.1 x0) (zz r4.1 y0) (zz r4.1 x1) (zz r4.1 y1)
    -- behind the comparison
    have o8 : Old H7.length H7 (H7 ++ J8) := Old.app _ _
    have oa : Old (H0 ++ J1 ++ J2 ++ J3).length (H0 ++ J1 ++ J2 ++ J3) (H7 ++ J8) := o4.trans ((o5.mono L4).trans ((o6.mono (by omega)).trans ((o7.mono (by omega)).trans (o8.mono (by omega)))))
    have hS8 : Shows (H7 ++ J8) q (ints xs) := hS3.keep oa
    obtain ⟨q9, c9, H9, e9, s9, o9⟩ := Unshift_eq 600 (by omega) hS8 hl x0 y0 x1 y1 c d s x y
    generalize hu : usf x0 y0 x1 y1 xs d s = u4 at e9 s9
    have hlu : u4.2.length ≤ 400 := by
      rw [← hu]; unfold usf
      cases pv x0 y0 x1 y1 xs.length <;> cases dp d <;> simp [hl]
    have L9 := o9.1
    have L8 : H7.length ≤ (H7 ++ J8).length := by simp
    obtain ⟨Ha, hHa⟩ : ∃ X, X = H9 ++ [some (⟨pl5 (zz u4.1 x0) (zz u4.1 y0) (zz u4.1 x1) (zz u4.1 y1) q9 u4.2.length c9, false, 0⟩ : Blk)] := ⟨_, rfl⟩
    have oaa : Old H9.length H9 Ha := by rw [hHa]; exact Old.app _ _
    have na : Ha.length = H9.length + 1 := by rw [hHa]; simp
    have hPa : Sees Ha H9.length (pl5 (zz u4.1 x0) (zz u4.1 y0) (zz u4.1 x1) (zz u4.1 y1) q9 u4.2.length c9) := ⟨_, by rw [hHa]; exact hblk_new _ _, rfl⟩
    have hSa : Shows Ha q (ints xs) := (hS8.keep o9).keep oaa
    obtain ⟨qb, cb, Hb, eb, sb, ob⟩ := UnshiftR_eq 600 (by omega) hSa hl x0 y0 x1 y1 c d s x y
    rw [hu] at eb sb
    have Lb := ob.1
    have hs9b : Shows Hb q9 (ints u4.2) := (s9.keep oaa).keep ob
    obtain ⟨Hc, hHc⟩ : ∃ X, X = Hb ++ [some (⟨pl5 (zz u4.1 x0) (zz u4.1 y0) (zz u4.1 x1) (zz u4.1 y1) qb u4.2.length cb, false, 0⟩ : Blk)] := ⟨_, rfl⟩
    have oc : Old Hb.length Hb Hc := by rw [hHc]; exact Old.app _ _
    have nc : Hc.length = Hb.length + 1 := by rw [hHc]; simp
    have hQc : Sees Hc Hb.length (pl5 (zz u4.1 x0) (zz u4.1 y0) (zz u4.1 x1) (zz u4.1 y1) qb u4.2.length cb) := ⟨_, by rw [hHc]; exact hblk_new _ _, rfl⟩
    obtain ⟨Jd, ed⟩ := same_eq (k := 600) (by omega) c9 cb (hs9b.keep oc) (sb.keep oc) hlu (zz u4.1 x0) (zz u4.1 y0) (zz u4.1 x1) (zz u4.1 y1)
    have o39 : Old (H0 ++ J1 ++ J2 ++ J3).length (H0 ++ J1 ++ J2 ++ J3) Ha := oa.trans ((o9.mono (by omega)).trans (oaa.mono (by omega)))
    have n0 : H0.length = H.length + 2 := by rw [hH0]; simp
    have mC1 := (hC0.old (Old.app H0 J1) (by omega)).cell
    have mC2 := (hC0.old ((Old.app H0 J1).trans ((Old.app (H0 ++ J1) J2).mono (Old.app H0 J1).1)) (by omega)).cell
    unfold cmp4 at mC1 mC2
    have mA := hA3.cell
    have mC := hC3.cell
    have mA5 := ((hA3.old o4 (by omega)).old o5 (by omega)).cell
    have mC5 := ((hC3.old o4 (by omega)).old o5 (by omega)).cell
    have mP7 := ((hP5.old o6 (by omega)).old o7 (by omega)).cell
    have mQ7 := hQ7.cell
    have mA8 := (hA3.old oa (by omega)).cell
    have mC8 := (hC3.old oa (by omega)).cell
    have mAa := (hA3.old o39 (by omega)).cell
    have mCa := (hC3.old o39 (by omega)).cell
    have mPc := ((hPa.old ob (by omega)).old oc (by omega)).cell
    have mQc := hQc.cell
    unfold pl5 at hH5 hH7 hHa hHc mA mA5 mP7 mQ7 mA8 mAa mPc mQc
    unfold cmp4 at mC mC5 mC8 mCa
    have hH5' := hH5.symm
    have hH7' := hH7.symm
    have hHa' := hHa.symm
    have hHc' := hHc.symm
    unfold L_ColorShifts L_ColorShifts_b L_ColorShifts_p0 L_ColorShifts_p0_b L_ColorShifts_p1 L_ColorShifts_p1_b
    dsimp only
    refine go_hal ?_
    refine go_halN hH0 ?_
    repeat (first | (with_reducible refine (e1 _ _).trans ?_) | (with_reducible refine (e2 _ _).trans ?_) | (with_reducible refine (e3 _ _).trans ?_) | (with_reducible refine (e4 _ _).trans ?_) | (with_reducible refine (e6 _ _).trans ?_) | (with_reducible refine (e8 _ _).trans ?_) | (with_reducible refine (e9 _ _).trans ?_) | (with_reducible refine (eb _ _).trans ?_) | (with_reducible refine (ed _ _).trans ?_) | ((with_reducible refine go_ip (x := ?_) ?_ ?_); rotate_left 1; (first | ((with_reducible refine (mA0 _).trans ?_); rfl) | ((with_reducible refine (mC0 _).trans ?_); rfl) | ((with_reducible refine (mC1 _).trans ?_); rfl) | ((with_reducible refine (mC2 _).trans ?_); rfl) | ((with_reducible refine (mA _).trans ?_); rfl) | ((with_reducible refine (mC _).trans ?_); rfl) | ((with_reducible refine (mA5 _).trans ?_); rfl) | ((with_reducible refine (mC5 _).trans ?_); rfl) | ((with_reducible refine (mP7 _).trans ?_); rfl) | ((with_reducible refine (mQ7 _).trans ?_); rfl) | ((with_reducible refine (mA8 _).trans ?_); rfl) | ((with_reducible refine (mC8 _).trans ?_); rfl) | ((with_reducible refine (mAa _).trans ?_); rfl) | ((with_reducible refine (mCa _).trans ?_); rfl) | ((with_reducible refine (mPc _).trans ?_); rfl) | ((with_reducible refine (mQc _).trans ?_); rfl) | rfl)) | ((with_reducible refine go_bp (x := ?_) ?_ ?_); rotate_left 1; (first | ((with_reducible refine (mA0 _).trans ?_); rfl) | ((with_reducible refine (mC0 _).trans ?_); rfl) | ((with_reducible refine (mC1 _).trans ?_); rfl) | ((with_reducible refine (mC2 _).trans ?_); rfl) | ((with_reducible refine (mA _).trans ?_); rfl) | ((with_reducible refine (mC _).trans ?_); rfl) | ((with_reducible refine (mA5 _).trans ?_); rfl) | ((with_reducible refine (mC5 _).trans ?_); rfl) | ((with_reducible refine (mP7 _).trans ?_); rfl) | ((with_reducible refine (mQ7 _).trans ?_); rfl) | ((with_reducible refine (mA8 _).trans ?_); rfl) | ((with_reducible refine (mC8 _).trans ?_); rfl) | ((with_reducible refine (mAa _).trans ?_); rfl) | ((with_reducible refine (mCa _).trans ?_); rfl) | ((with_reducible refine (mPc _).trans ?_); rfl) | ((with_reducible refine (mQc _).trans ?_); rfl) | rfl)) | ((with_reducible refine go_lp (x := ?_) (l := ?_) (c := ?_) ?_ ?_); rotate_left 3; (first | ((with_reducible refine (mA0 _).trans ?_); rfl) | ((with_reducible refine (mC0 _).trans ?_); rfl) | ((with_reducible refine (mC1 _).trans ?_); rfl) | ((with_reducible refine (mC2 _).trans ?_); rfl) | ((with_reducible refine (mA _).trans ?_); rfl) | ((with_reducible refine (mC _).trans ?_); rfl) | ((with_reducible refine (mA5 _).trans ?_); rfl) | ((with_reducible refine (mC5 _).trans ?_); rfl) | ((with_reducible refine (mP7 _).trans ?_); rfl) | ((with_reducible refine (mQ7 _).trans ?_); rfl) | ((with_reducible refine (mA8 _).trans ?_); rfl) | ((with_reducible refine (mC8 _).trans ?_); rfl) | ((with_reducible refine (mAa _).trans ?_); rfl) | ((with_reducible refine (mCa _).trans ?_); rfl) | ((with_reducible refine (mPc _).trans ?_); rfl) | ((with_reducible refine (mQc _).trans ?_); rfl) | rfl)) | ((with_reducible refine go_pp (x := ?_) ?_ ?_); rotate_left 1; (first | ((with_reducible refine (mA0 _).trans ?_); rfl) | ((with_reducible refine (mC0 _).trans ?_); rfl) | ((with_reducible refine (mC1 _).trans ?_); rfl) | ((with_reducible refine (mC2 _).trans ?_); rfl) | ((with_reducible refine (mA _).trans ?_); rfl) | ((with_reducible refine (mC _).trans ?_); rfl) | ((with_reducible refine (mA5 _).trans ?_); rfl) | ((with_reducible refine (mC5 _).trans ?_); rfl) | ((with_reducible refine (mP7 _).trans ?_); rfl) | ((with_reducible refine (mQ7 _).trans ?_); rfl) | ((with_reducible refine (mA8 _).trans ?_); rfl) | ((with_reducible refine (mC8 _).trans ?_); rfl) | ((with_reducible refine (mAa _).trans ?_); rfl) | ((with_reducible refine (mCa _).trans ?_); rfl) | ((with_reducible refine (mPc _).trans ?_); rfl) | ((with_reducible refine (mQc _).trans ?_); rfl) | rfl)) | ((with_reducible refine go_i (x := ?_) ?_ ?_); rotate_left 1; (first | ((with_reducible refine (mA0 _).trans ?_); rfl) | ((with_reducible refine (mC0 _).trans ?_); rfl) | ((with_reducible refine (mC1 _).trans ?_); rfl) | ((with_reducible refine (mC2 _).trans ?_); rfl) | ((with_reducible refine (mA _).trans ?_); rfl) | ((with_reducible refine (mC _).trans ?_); rfl) | ((with_reducible refine (mA5 _).trans ?_); rfl) | ((with_reducible refine (mC5 _).trans ?_); rfl) | ((with_reducible refine (mP7 _).trans ?_); rfl) | ((with_reducible refine (mQ7 _).trans ?_); rfl) | ((with_reducible refine (mA8 _).trans ?_); rfl) | ((with_reducible refine (mC8 _).trans ?_); rfl) | ((with_reducible refine (mAa _).trans ?_); rfl) | ((with_reducible refine (mCa _).trans ?_); rfl) | ((with_reducible refine (mPc _).trans ?_); rfl) | ((with_reducible refine (mQc _).trans ?_); rfl) | rfl)) | ((with_reducible refine go_b (x := ?_) ?_ ?_); rotate_left 1; (first | ((with_reducible refine (mA0 _).trans ?_); rfl) | ((with_reducible refine (mC0 _).trans ?_); rfl) | ((with_reducible refine (mC1 _).trans ?_); rfl) | ((with_reducible refine (mC2 _).trans ?_); rfl) | ((with_reducible refine (mA _).trans ?_); rfl) | ((with_reducible refine (mC _).trans ?_); rfl) | ((with_reducible refine (mA5 _).trans ?_); rfl) | ((with_reducible refine (mC5 _).trans ?_); rfl) | ((with_reducible refine (mP7 _).trans ?_); rfl) | ((with_reducible refine (mQ7 _).trans ?_); rfl) | ((with_reducible refine (mA8 _).trans ?_); rfl) | ((with_reducible refine (mC8 _).trans ?_); rfl) | ((with_reducible refine (mAa _).trans ?_); rfl) | ((with_reducible refine (mCa _).trans ?_); rfl) | ((with_reducible refine (mPc _).trans ?_); rfl) | ((with_reducible refine (mQc _).trans ?_); rfl) | rfl)) | ((with_reducible refine go_l (x := ?_) (l := ?_) (c := ?_) ?_ ?_); rotate_left 3; (first | ((with_reducible refine (mA0 _).trans ?_); rfl) | ((with_reducible refine (mC0 _).trans ?_); rfl) | ((with_reducible refine (mC1 _).trans ?_); rfl) | ((with_reducible refine (mC2 _).trans ?_); rfl) | ((with_reducible refine (mA _).trans ?_); rfl) | ((with_reducible refine (mC _).trans ?_); rfl) | ((with_reducible refine (mA5 _).trans ?_); rfl) | ((with_reducible refine (mC5 _).trans ?_); rfl) | ((with_reducible refine (mP7 _).trans ?_); rfl) | ((with_reducible refine (mQ7 _).trans ?_); rfl) | ((with_reducible refine (mA8 _).trans ?_); rfl) | ((with_reducible refine (mC8 _).trans ?_); rfl) | ((with_reducible refine (mAa _).trans ?_); rfl) | ((with_reducible refine (mCa _).trans ?_); rfl) | ((with_reducible refine (mPc _).trans ?_); rfl) | ((with_reducible refine (mQc _).trans ?_); rfl) | rfl)) | ((with_reducible refine go_p (x := ?_) ?_ ?_); rotate_left 1; (first | ((with_reducible refine (mA0 _).trans ?_); rfl) | ((with_reducible refine (mC0 _).trans ?_); rfl) | ((with_reducible refine (mC1 _).trans ?_); rfl) | ((with_reducible refine (mC2 _).trans ?_); rfl) | ((with_reducible refine (mA _).trans ?_); rfl) | ((with_reducible refine (mC _).trans ?_); rfl) | ((with_reducible refine (mA5 _).trans ?_); rfl) | ((with_reducible refine (mC5 _).trans ?_); rfl) | ((with_reducible refine (mP7 _).trans ?_); rfl) | ((with_reducible refine (mQ7 _).trans ?_); rfl) | ((with_reducible refine (mA8 _).trans ?_); rfl) | ((with_reducible refine (mC8 _).trans ?_); rfl) | ((with_reducible refine (mAa _).trans ?_); rfl) | ((with_reducible refine (mCa _).trans ?_); rfl) | ((with_reducible refine (mPc _).trans ?_); rfl) | ((with_reducible refine (mQc _).trans ?_); rfl) | rfl)) | ((with_reducible refine go_halst hH5 ?_ ?_ ?_); rfl; rfl) | (with_reducible refine go_halN hH5 ?_) | ((with_reducible refine go_halst hH7 ?_ ?_ ?_); rfl; rfl) | (with_reducible refine go_halN hH7 ?_) | ((with_reducible refine go_halst hHa ?_ ?_ ?_); rfl; rfl) | (with_reducible refine go_halN hHa ?_) | ((with_reducible refine go_halst hHc ?_ ?_ ?_); rfl; rfl) | (with_reducible refine go_halN hHc ?_) | ((with_reducible refine go_t ?_ ?_); (show _ = true; rfl)) | ((with_reducible refine go_f ?_ ?_); (show _ = false; rfl)) | (with_reducible refine go_ne ?_) | (with_reducible refine go_eq ?_) | (with_reducible refine go_fad ?_) | (with_reducible refine go_nil ?_))
    exact fin _
end Go.Proofs.Ytoeoolnkndkefaa.Sh
