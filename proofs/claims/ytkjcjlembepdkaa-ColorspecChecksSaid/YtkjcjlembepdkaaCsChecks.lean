/- Colorspec: L_ColorspecChecks answers true. -/
import Derived.Test.YtkjcjlembepdkaaSh11
import Derived.Test.YtkjcjlembepdkaaCsH
set_option linter.unusedVariables false
set_option linter.unusedSimpArgs false
namespace Go.Proofs.Ytkjcjlembepdkaa.Sh
open Go.Proofs.Ytkjcjlembepdkaa.FW
theorem checks_in (H : Heap) (us : List Value) (h : AllLies H [(dColor, true), (dHeader, true), (.int .i64, false)] us) : L_ColorspecChecks_c Bool 1000000 us H asB = some true := by
  obtain ⟨k, hk⟩ : ∃ k, k = 1000000 := ⟨_, rfl⟩
  rw [← hk]
  have hk1 : 80000 < k := by omega
  clear hk
  obtain ⟨cs, vs, rfl, hs, h⟩ := lies_agg h
  obtain ⟨ds, vs, rfl, hd, h⟩ := lies_agg h
  obtain ⟨sp, vs, rfl, _, h⟩ := lies_int h
  obtain rfl := lies_nil h
  obtain ⟨s, q, rs, c, q2, rows, c2, rfl, hS, hP, _⟩ := color_of hs
  obtain ⟨n1, n2, n3, n4, n5, n6, q3, co, c3, rfl, hC⟩ := header_of hd
  show L_ColorspecChecks k s q rs.length c q2 rows.length c2 n1 n2 n3 n4 n5 n6 q3 co.length c3 sp H (fun t H => asB (.bool t) H) = some true
  obtain ⟨H1, hH1⟩ : ∃ H1, H1 = H ++ [some (⟨[.int .i64 s, .slice q rs.length c, .slice q2 rows.length c2], false, 0⟩ : Blk)] := ⟨_, rfl⟩
  have o1 : Old H.length H H1 := hH1 ▸ Old.app _ _
  have O1 : Owns H1 H.length [.int .i64 s, .slice q rs.length c, .slice q2 rows.length c2] 0 := by rw [hH1]; exact hblk_new H _
  have l1 : H1.length = H.length + 1 := by rw [hH1]; simp
  obtain ⟨H2, hH2⟩ : ∃ H2, H2 = H1 ++ [some (⟨[.int .i64 n1, .int .i64 n2, .int .i64 n3, .int .i64 n4, .int .i64 n5, .int .i64 n6, .slice q3 co.length c3], false, 0⟩ : Blk)] := ⟨_, rfl⟩
  have o2 : Old H1.length H1 H2 := hH2 ▸ Old.app _ _
  have O2 : Owns H2 H1.length [.int .i64 n1, .int .i64 n2, .int .i64 n3, .int .i64 n4, .int .i64 n5, .int .i64 n6, .slice q3 co.length c3] 0 := by rw [hH2]; exact hblk_new H1 _
  have l2 : H2.length = H1.length + 1 := by rw [hH2]; simp
  have A2 := at3 (O1.old o2 (by omega))
  have o12 := o1.trans (o2.mono (by omega))
  obtain ⟨H3, e3, o3⟩ := Few_eq (k := k) hk1 (rs := rs) (q := q) s c c2 (hP.keep o12)
  have l3 := o3.1
  have Oc3 := (O1.old o2 (by omega)).old o3 (by omega)
  have Oh3 := O2.old o3 (by omega)
  have h6 : hcell H3 H1.length 6 = some (.slice q3 co.length c3) := Oh3.sees.cell 6
  unfold L_ColorspecChecks L_ColorspecChecks_b L_ColorspecChecks_p0 L_ColorspecChecks_p0_b
  refine go_halN hH1 (go_halN hH2 (go_ip A2.a (go_lp A2.b' (go_lp A2.c' ((e3 _ _).trans ?_)))))
  cases hf : fewB rs rows with
  | false => exact go_t rfl (go_t rfl rfl)
  | true =>
    have F := few_of hf
    refine go_f rfl (go_fad (go_l h6 ?_))
    by_cases h10 : co.length > 10
    · exact go_t (decide_eq_true (by omega)) rfl
    refine go_f (decide_eq_false (by omega)) ?_
    obtain ⟨H4, e4, c4, r4, b4, n4'⟩ := frz_own (o := 0) (s := none) Oc3
    have Oh4 := Oh3.but b4 (by omega)
    obtain ⟨H5, e5, c5, r5, b5, n5'⟩ := frz_own (o := 0) (s := none) Oh4
    have keep4 : ∀ i, hcell H5 H.length i = hcell H4 H.length i := fun i => by unfold hcell; rw [b5.2 _ (by omega) (by omega)]
    have x0 : hcell H5 H.length 0 = some (.int .i64 s) := (keep4 0).trans (c4 0)
    have x1 : hcell H5 H.length 1 = some (.slice q rs.length c) := (keep4 1).trans (c4 1)
    have x2 : hcell H5 H.length 2 = some (.slice q2 rows.length c2) := (keep4 2).trans (c4 2)
    have y0 : hcell H5 H1.length 0 = some (.int .i64 n1) := c5 0
    have y1 : hcell H5 H1.length 1 = some (.int .i64 n2) := c5 1
    have y2 : hcell H5 H1.length 2 = some (.int .i64 n3) := c5 2
    have y3 : hcell H5 H1.length 3 = some (.int .i64 n4) := c5 3
    have y4 : hcell H5 H1.length 4 = some (.int .i64 n5) := c5 4
    have y5 : hcell H5 H1.length 5 = some (.int .i64 n6) := c5 5
    have y6 : hcell H5 H1.length 6 = some (.slice q3 co.length c3) := c5 6
    have ro4 : isRo H5 (some ⟨H.length, 0, none⟩) = true := by
      have := r4 0 none
      simp only [isRo] at this ⊢
      rw [b5.2 _ (by omega) (by omega)]; exact this
    have o35 : Old H.length H3 H5 := (b4.old (Nat.le_refl _) (by omega)).trans (b5.old (by omega) (by omega))
    have o05 : Old H.length H H5 := o12.trans ((o3.mono (by omega)).trans o35)
    obtain ⟨H6, e6, o6⟩ := check_eq (k := k) hk1 s c c2 n1 n2 n3 n4 n5 n6 c3 (hS.keep o05) (hP.keep o05) (hC.keep o05) F
    have o06 := o05.trans (o6.mono (by omega))
    obtain ⟨H7, e7, o7⟩ := rcheck_eq (k := k) hk1 s c c2 n1 n2 n3 n4 n5 n6 c3 (hS.keep o06) (hP.keep o06) (hC.keep o06) F
    refine (e4 _ _).trans ((e5 _ _).trans (go_ip x0 (go_lp x1 (go_lp x2 (go_ip y0 (go_ip y1 (go_ip y2 (go_ip y3 (go_ip y4 (go_ip y5 (go_lp y6 ((e6 _ _).trans ?_))))))))))))
    refine go_t ro4 (go_ip x0 (go_lp x1 (go_lp x2 (go_t (r5 0 none) (go_ip y0 (go_ip y1 (go_ip y2 (go_ip y3 (go_ip y4 (go_ip y5 (go_lp y6 ((e7 _ _).trans ?_))))))))))))
    exact go_eq ((chan_eq _ _ _).trans ((rchan_eq _ _ _).trans (go_eq rfl)))
end Go.Proofs.Ytkjcjlembepdkaa.Sh
