/- CsExpands. -/
import Derived.Test.YtkjcjlembepdkaaSh12
import Derived.Test.YtkjcjlembepdkaaEeCs
/- Colorspec: L_ColorspecExpands answers true. -/
set_option linter.unusedVariables false
set_option linter.unusedSimpArgs false
namespace Go.Proofs.Ytkjcjlembepdkaa.Sh
open Go.Proofs.Ytkjcjlembepdkaa.FW
theorem expands_in (H : Heap) (us : List Value) (h : AllLies H [(dImage, true), (dColor, true)] us) : L_ColorspecExpands_c Bool 1000000 us H asB = some true := by
  obtain ⟨k, hk⟩ : ∃ k, k = 1000000 := ⟨_, rfl⟩
  rw [← hk]
  have hk1 : 100000 < k := by omega
  clear hk
  obtain ⟨ims, vs, rfl, hi, h⟩ := lies_agg h
  obtain ⟨cls, vs, rfl, hs, h⟩ := lies_agg h
  obtain rfl := lies_nil h
  obtain ⟨g, q3, cs, c3, q4, ps, c4, rfl, hC, hL, _⟩ := image_of hi
  obtain ⟨s, q, rs, c, q2, rows, c2, rfl, hS, hP, _⟩ := color_of hs
  show L_ColorspecExpands k g.1 g.2.1 g.2.2.1 g.2.2.2.1 g.2.2.2.2.1 g.2.2.2.2.2 q3 cs.length c3 q4 ps.length c4 s q rs.length c q2 rows.length c2 H (fun t H => asB (.bool t) H) = some true
  obtain ⟨H1, hH1⟩ : ∃ H1, H1 = H ++ [some (⟨img8 g q3 cs.length c3 q4 ps.length c4, false, 0⟩ : Blk)] := ⟨_, rfl⟩
  have o1 : Old H.length H H1 := hH1 ▸ Old.app _ _
  have O1 : Owns H1 H.length (img8 g q3 cs.length c3 q4 ps.length c4) 0 := by rw [hH1]; exact hblk_new H _
  have l1 : H1.length = H.length + 1 := by rw [hH1]; simp
  obtain ⟨H2, hH2⟩ : ∃ H2, H2 = H1 ++ [some (⟨cl s q rs.length c q2 rows.length c2, false, 0⟩ : Blk)] := ⟨_, rfl⟩
  have o2 : Old H1.length H1 H2 := hH2 ▸ Old.app _ _
  have O2 : Owns H2 H1.length (cl s q rs.length c q2 rows.length c2) 0 := by rw [hH2]; exact hblk_new H1 _
  have l2 : H2.length = H1.length + 1 := by rw [hH2]; simp
  have o02 := o1.trans (o2.mono (by omega))
  have A2 := at8 (O1.old o2 (by omega))
  have B2 := at3 O2
  obtain ⟨H3, e3, o3⟩ := fewI_eq (k := k) (by omega) (cs := cs) (q := q3) g c3 c4 (hL.keep o02)
  have l3 := o3.1
  have A3 := A2.old o3 (by omega)
  have B3 := B2.old o3 (by omega)
  have o03 := o02.trans (o3.mono (by omega))
  obtain ⟨H4, e4, o4⟩ := Few_eq (k := k) (by omega) (rs := rs) (q := q) s c c2 (hP.keep o03)
  have l4 := o4.1
  have A4 := A3.old o4 (by omega)
  have B4 := B3.old o4 (by omega)
  have o04 := o03.trans (o4.mono (by omega))
  unfold L_ColorspecExpands L_ColorspecExpands_b L_ColorspecExpands_p0 L_ColorspecExpands_p0_b
  refine go_halN hH1 (go_halN hH2 (A2.go ((e3 _ _).trans ?_)))
  cases hf1 : fewI cs ps with
  | false => exact go_t rfl (go_t rfl rfl)
  | true =>
    refine go_f rfl (go_ip B3.a (go_lp B3.b' (go_lp B3.c' ((e4 _ _).trans ?_))))
    cases hf : fewB rs rows with
    | false => exact go_t rfl rfl
    | true =>
      have F := few_of hf
      obtain ⟨f1, f2, f3⟩ := fewI_of hf1
      have hd : ∀ p ∈ ps, p.2.2.2.length ≤ 100000 := fun p hp => by have := f3 p hp; omega
      obtain ⟨H5, h5, q5, c5, cs5, q5', c5', ps5, e5, x5, I5, r5, o5⟩ := Expand_eq hk1 g s c c2 c3 c4 (hS.keep o04) (hP.keep o04) (hC.keep o04) (hL.keep o04) F (by omega) (by omega) hd
      obtain ⟨H6', hH6⟩ : ∃ H6', H6' = H5 ++ [some (⟨img8 h5 q5 cs5.length c5 q5' ps5.length c5', false, 0⟩ : Blk)] := ⟨_, rfl⟩
      have o6 : Old H5.length H5 H6' := hH6 ▸ Old.app _ _
      have O6 : Owns H6' H5.length (img8 h5 q5 cs5.length c5 q5' ps5.length c5') 0 := by rw [hH6]; exact hblk_new H5 _
      have l6 : H6'.length = H5.length + 1 := by rw [hH6]; simp
      have l5 := o5.1
      have o46 := o5.trans (o6.mono (by omega))
      have o06 := o04.trans (o46.mono (by omega))
      have A6 := A4.old o46 (by omega)
      have B6 := B4.old o46 (by omega)
      obtain ⟨H7, h7, q7, c7, cs7, q7', c7', ps7, e7, x7, I7, r7, o7⟩ := rExpand_eq hk1 g s c c2 c3 c4 (hS.keep o06) (hP.keep o06) (hC.keep o06) (hL.keep o06) F (by omega) (by omega) hd
      rw [r5] at r7
      simp only [Prod.mk.injEq] at r7
      obtain ⟨rfl, rfl, rfl, rpp⟩ := r7
      have l7 := o7.1
      obtain ⟨H8, hH8⟩ : ∃ H8, H8 = H7 ++ [some (⟨img8 h5 q7 cs5.length c7 q7' ps7.length c7', false, 0⟩ : Blk)] := ⟨_, rfl⟩
      have o8 : Old H7.length H7 H8 := hH8 ▸ Old.app _ _
      have O8 : Owns H8 H7.length (img8 h5 q7 cs5.length c7 q7' ps7.length c7') 0 := by rw [hH8]; exact hblk_new H7 _
      have l8 : H8.length = H7.length + 1 := by rw [hH8]; simp
      have o68 := o7.trans (o8.mono (by omega))
      have o58 := o6.trans (o68.mono (by omega))
      have A8 := at8 (O6.old o68 (by omega))
      have B8 := at8 O8
      have I8 := I5.keep o58
      have J8 := I7.keep o8
      have hb := expO_small (h := g) (s := s) (rs := rs) (rows := rows) (cs := cs) (ps := ps) (by have := F.a; omega) (by omega) (by omega) hd r5
      obtain ⟨H9, e9, o9⟩ := sameImage_true hk1 h5 c5 c5' c7 c7' I8.c.s J8.c.s ⟨I8.p.s, fun p hp => (I8.w p hp).s⟩ ⟨J8.p.s, fun p hp => (J8.w p hp).s⟩ rpp hb.1 hb.2.1 hb.2.2
      refine go_f rfl (A4.go (go_ip B4.a (go_lp B4.b' (go_lp B4.c' ((x5 _ _).trans (go_halst hH6 rfl rfl ?_))))))
      refine A6.go (go_ip B6.a (go_lp B6.b' (go_lp B6.c' ((x7 _ _).trans (go_halst hH8 rfl rfl ?_)))))
      exact A8.go (B8.go ((e9 _ _).trans (go_t rfl (go_eq rfl))))
end Go.Proofs.Ytkjcjlembepdkaa.Sh
