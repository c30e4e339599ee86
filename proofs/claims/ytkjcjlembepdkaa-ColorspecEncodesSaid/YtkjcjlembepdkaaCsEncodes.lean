/- Colorspec: L_ColorspecEncodes answers true. -/
import Derived.Test.YtkjcjlembepdkaaSh14
import Derived.Test.YtkjcjlembepdkaaCsJ
import Derived.Test.YtkjcjlembepdkaaCsK
set_option linter.unusedVariables false
set_option linter.unusedSimpArgs false
namespace Go.Proofs.Ytkjcjlembepdkaa.Sh
open Go.Proofs.Ytkjcjlembepdkaa.FW
theorem same_refl (s : Int) (rs : List Int) (rows : List Rw) : sameB s rs rows s rs rows = true := by
  unfold sameB; rw [decide_eq_true rfl, decide_eq_true rfl, decide_eq_true rfl]; rfl
/-- What a slice shows stays when a block of one's own is frozen. -/
theorem frz_shows {H H' : Heap} {b z : Nat} {X : List Value} {q : Option Addr} {cs : List Value} (O : Owns H b X z) (hc : ∀ i, hcell H' b i = X[i]?) (hr : isRo H' (some ⟨b, 0, none⟩) = true) (bt : But b H H') (h : Shows H q cs) : Shows H' q cs := by
  rcases h with h | ⟨b2, o, full, rfl, h1, h2, h3⟩
  · exact .inl h
  · refine .inr ⟨b2, o, full, rfl, ?_, h2, h3⟩
    by_cases hb : b2 = b
    · subst hb
      obtain ⟨B, g1, g2⟩ := h1
      have hX : full = X := by rw [show hblk H b2 = _ from O] at g1; cases g1; exact g2.symm
      simp only [isRo] at hr
      cases hB : hblk H' b2 with
      | none => rw [hB] at hr; cases hr
      | some B' =>
        refine ⟨B', hB, ?_⟩
        rw [hX]
        apply List.ext_getElem?
        intro i
        have := hc i
        unfold hcell at this
        rw [hB] at this
        exact this
    · exact h1.but bt hb
theorem encodes_in (H : Heap) (us : List Value) (h : AllLies H [(dColor, true), (dColor, true)] us) : L_ColorspecEncodes_c Bool 1000000 us H asB = some true := by
  obtain ⟨k, hk⟩ : ∃ k, k = 1000000 := ⟨_, rfl⟩
  rw [← hk]
  have hk0 : 100000 < k := by omega
  have hk1 : 80000 < k := by omega
  clear hk
  obtain ⟨cs, vs, rfl, hs, h⟩ := lies_agg h
  obtain ⟨ds, vs, rfl, hd, h⟩ := lies_agg h
  obtain rfl := lies_nil h
  obtain ⟨s, q, rs, c, q2, rows, c2, rfl, hS, hP, _⟩ := color_of hs
  obtain ⟨s', q', rs', c', q2', rows', c2', rfl, hS', hP', _⟩ := color_of hd
  show L_ColorspecEncodes k s q rs.length c q2 rows.length c2 s' q' rs'.length c' q2' rows'.length c2' H (fun t H => asB (.bool t) H) = some true
  obtain ⟨H1, hH1⟩ : ∃ H1, H1 = H ++ [some (⟨[.int .i64 s, .slice q rs.length c, .slice q2 rows.length c2], false, 0⟩ : Blk)] := ⟨_, rfl⟩
  have o1 : Old H.length H H1 := hH1 ▸ Old.app _ _
  have O1 : Owns H1 H.length [.int .i64 s, .slice q rs.length c, .slice q2 rows.length c2] 0 := by rw [hH1]; exact hblk_new H _
  have l1 : H1.length = H.length + 1 := by rw [hH1]; simp
  obtain ⟨H2, hH2⟩ : ∃ H2, H2 = H1 ++ [some (⟨[.int .i64 s', .slice q' rs'.length c', .slice q2' rows'.length c2'], false, 0⟩ : Blk)] := ⟨_, rfl⟩
  have o2 : Old H1.length H1 H2 := hH2 ▸ Old.app _ _
  have P2 : Owns H2 H1.length [.int .i64 s', .slice q' rs'.length c', .slice q2' rows'.length c2'] 0 := by rw [hH2]; exact hblk_new H1 _
  have l2 : H2.length = H1.length + 1 := by rw [hH2]; simp
  have O2 := O1.old o2 (by omega)
  have o02 : Old H.length H H2 := o1.trans (o2.mono (by omega))
  obtain ⟨H3, e3, o3⟩ := Few_eq (k := k) hk1 (rs := rs) (q := q) s c c2 (hP.keep o02)
  have l3 := o3.1
  have o03 := o02.trans (o3.mono (by omega))
  have O3 := O2.old o3 (by omega)
  have P3 := P2.old o3 (by omega)
  have A2 := at3 O2
  have A3 := at3 O3
  have B3 := at3 P3
  unfold L_ColorspecEncodes L_ColorspecEncodes_b L_ColorspecEncodes_p0 L_ColorspecEncodes_p0_b
  refine go_halN hH1 (go_halN hH2 (go_ip A2.a (go_lp A2.b' (go_lp A2.c' ((e3 _ _).trans ?_)))))
  cases hf : fewB rs rows with
  | false => exact go_t rfl (go_t rfl rfl)
  | true =>
    have F := few_of hf
    obtain ⟨H4, e4, o4⟩ := Few_eq (k := k) hk1 (rs := rs') (q := q') s' c' c2' (hP'.keep o03)
    have l4 := o4.1
    have o04 := o03.trans (o4.mono (by omega))
    refine go_f rfl (go_ip B3.a (go_lp B3.b' (go_lp B3.c' ((e4 _ _).trans ?_))))
    cases hf' : fewB rs' rows' with
    | false => exact go_t rfl rfl
    | true =>
      have F' := few_of hf'
      have O4 := O3.old o4 (by omega)
      have P4 := P3.old o4 (by omega)
      have A4 := at3 O4
      obtain ⟨H5, q5, c5, e5, o5, S5⟩ := encode_eq (k := k) hk1 s c c2 (hS.keep o04) (hP.keep o04) F
      have l5 := o5.1
      have o05 := o04.trans (o5.mono (by omega))
      have O5 := O4.old o5 (by omega)
      have P5 := P4.old o5 (by omega)
      have A5 := at3 O5
      obtain ⟨H6, q6, c6, e6, o6, S6⟩ := rencode_eq (k := k) hk1 s c c2 (hS.keep o05) (hP.keep o05) F
      have l6 := o6.1
      have o06 := o05.trans (o6.mono (by omega))
      have O6 := O5.old o6 (by omega)
      have P6 := P5.old o6 (by omega)
      obtain ⟨H7, e7, f7, r7, b7, n7⟩ := frz_own (o := 0) (s := none) O6
      have P7 := P6.but b7 (by omega)
      obtain ⟨H8, e8, f8, r8, b8, n8⟩ := frz_own (o := 0) (s := none) P7
      have keep7 : ∀ i, hcell H8 H.length i = hcell H7 H.length i := fun i => by unfold hcell; rw [b8.2 _ (by omega) (by omega)]
      have A8 : At3 H8 H.length s q rs.length c q2 rows.length c2 := ⟨(keep7 0).trans (f7 0), (keep7 1).trans (f7 1), (keep7 2).trans (f7 2)⟩
      have B8 : At3 H8 H1.length s' q' rs'.length c' q2' rows'.length c2' := ⟨f8 0, f8 1, f8 2⟩
      have ro7 : isRo H8 (some ⟨H.length, 0, none⟩) = true := by
        have := r7 0 none
        simp only [isRo] at this ⊢
        rw [b8.2 _ (by omega) (by omega)]; exact this
      have o68 : Old H.length H6 H8 := (b7.old (Nat.le_refl _) (by omega)).trans (b8.old (by omega) (by omega))
      have o08 := o06.trans o68
      have S5' : Shows H8 q5 (byt (encR s rs rows)) := frz_shows P7 f8 (r8 0 none) b8 (frz_shows O6 f7 (r7 0 none) b7 (S5.keep o6))
      have S6' : Shows H8 q6 (byt (encR s rs rows)) := frz_shows P7 f8 (r8 0 none) b8 (frz_shows O6 f7 (r7 0 none) b7 S6)
      refine go_f rfl (go_ip A4.a (go_lp A4.b' (go_lp A4.c' ((e5 _ _).trans (go_ip A5.a (go_lp A5.b' (go_lp A5.c' ((e6 _ _).trans ((e7 _ _).trans ((e8 _ _).trans ?_))))))))))
      refine (b2s_eq S5' _ _).trans ((b2s_eq S6' _ _).trans (go_t (ba_beq _) (go_eq ?_)))
      obtain ⟨H9, e9, o9⟩ := same_eq (k := k) hk0 s s' c c2 c' c2' (hS.keep o08) (hP.keep o08) F (hS'.keep o08) (hP'.keep o08)
      have l9 := o9.1
      have o09 := o08.trans (o9.mono (by omega))
      obtain ⟨Ha, ea, oa⟩ := rsame_eq (k := k) hk0 s s' c c2 c' c2' (hS.keep o09) (hP.keep o09) F (hS'.keep o09) (hP'.keep o09)
      have la := oa.1
      have o0a := o09.trans (oa.mono (by omega))
      have Aa : At3 Ha H.length s q rs.length c q2 rows.length c2 := (A8.old o9 (by omega)).old oa (by omega)
      obtain ⟨Hb, eb, ob⟩ := same_eq (k := k) hk0 s s c c2 c c2 (hS.keep o0a) (hP.keep o0a) F (hS.keep o0a) (hP.keep o0a)
      rw [same_refl] at eb
      refine go_ip A8.a (go_lp A8.b' (go_lp A8.c' (go_ip B8.a (go_lp B8.b' (go_lp B8.c' ((e9 _ _).trans ?_))))))
      refine go_t ro7 (go_ip A8.a (go_lp A8.b' (go_lp A8.c' (go_t (r8 0 none) (go_ip B8.a (go_lp B8.b' (go_lp B8.c' ((ea _ _).trans ?_))))))))
      refine go_t (beq_self_eq_true _) (go_ip Aa.a (go_lp Aa.b' (go_lp Aa.c' (go_ip Aa.a (go_lp Aa.b' (go_lp Aa.c' ((eb _ _).trans (go_t rfl rfl))))))))
end Go.Proofs.Ytkjcjlembepdkaa.Sh
