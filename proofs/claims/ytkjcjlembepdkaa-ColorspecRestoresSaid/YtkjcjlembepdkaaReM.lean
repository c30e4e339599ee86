/- CsRestores. -/
import Derived.Test.YtkjcjlembepdkaaSh16
import Derived.Test.YtkjcjlembepdkaaReCs
/- Colorspec: L_ColorspecRestores answers true. -/
set_option linter.unusedVariables false
set_option linter.unusedSimpArgs false
namespace Go.Proofs.Ytkjcjlembepdkaa.Sh
open Go.Proofs.Ytkjcjlembepdkaa.FW
theorem w8_bd (n : Int) : 0 ≤ w8 n ∧ w8 n ≤ 255 := by rw [w8_mod]; omega
theorem enc_bytes (s : Int) (rs : List Int) (rows : List Rw) : ∀ x ∈ encB s rs rows, 0 ≤ x ∧ x ≤ 255 := by
  intro x hx
  unfold encB at hx
  simp only [List.mem_append, List.mem_cons, List.mem_map, List.mem_flatMap, List.mem_nil_iff, or_false] at hx
  rcases hx with (((rfl | rfl) | ⟨a, _, rfl⟩) | (rfl | rfl)) | ⟨r, _, hr⟩
  · exact w8_bd _
  · exact w8_bd _
  · exact w8_bd _
  · exact w8_bd _
  · exact w8_bd _
  · unfold rcon at hr
    obtain ⟨a, _, rfl⟩ := List.mem_map.1 hr
    exact w8_bd _
theorem enc_len {s : Int} {rs : List Int} {rows : List Rw} (h : validI s rs rows = 0) : (encB s rs rows).length ≤ 2000 := by
  rw [valid_con] at h
  have V := vok h
  obtain ⟨_, c2⟩ := chunks_join rs.length (cons rows) (fun x hx => (V.c x hx).1)
  have h1 := V.n1
  have h2 := V.m
  have h3 := Nat.mul_le_mul h1.2 h2
  unfold encB
  rw [flat_rcon fun x hx => (V.c x hx).2]
  simp only [List.length_append, List.length_cons, List.length_nil, List.length_map, c2]
  omega
theorem dec_err {bs : List Int} {s : Int} {rs : List Int} {cs : List (List Int)} {e : Int} (h : (s, rs, cs, e) = decR bs) (he : e ≠ 0) : rs = [] := by
  unfold decR at h
  split at h
  · simp only [Prod.mk.injEq] at h; exact h.2.1
  split at h
  · simp only [Prod.mk.injEq] at h; exact h.2.1
  split at h
  · simp only [Prod.mk.injEq] at h; exact h.2.1
  split at h
  · simp only [Prod.mk.injEq] at h; exact h.2.1
  unfold dec2 at h
  split at h
  · simp only [Prod.mk.injEq] at h; exact (he h.2.2.2).elim
  · simp only [Prod.mk.injEq] at h; exact h.2.1
/-- The second half: bytes that are read and written again. -/
theorem rest2 {k : Nat} (hk0 : 100000 < k) {H : Heap} {q : Option Addr} {bs : List Int} {c : Nat} (h : Shows H q (byt bs)) (hc : c = unk ∨ bs.length ≤ c ∧ c < unk) (hl : bs.length ≤ 5000) (hbs : ∀ x ∈ bs, 0 ≤ x ∧ x ≤ 255) :
    (colorspec_Decode k q bs.length c H fun n45 q46 l47 c48 q49 l50 c51 n52 H53 => hal H53 [.int .i64 0, .slice none 0 0, .slice none 0 0] fun p54 H55 => hst H55 p54 [.int .i64 n45, .slice q46 l47 c48, .slice q49 l50 c51] fun H56 => bif (n52 != 0) then (hfad 1 p54 fun p57 => ldL H56 p57 fun q58 l59 c60 => bif (((l59 : Nat) : Int) == 0) then (L_awakeq fun t61 => asB (.bool t61) H56) else asB (.bool false) H56) else (ldI .i64 H56 (pad p54 0) fun n62 => ldL H56 (pad p54 1) fun q63 l64 c65 => ldL H56 (pad p54 2) fun q66 l67 c68 => colorspec_Encode k n62 q63 l64 c65 q66 l67 c68 H56 fun q69 l70 c71 n72 H73 => bif (n72 == 0) then (hb2s H73 q69 l70 fun s74 => hb2s H73 q bs.length fun s75 => bif (s74 == s75) then (L_awakeq fun t76 => asB (.bool t76) H73) else asB (.bool false) H73) else asB (.bool false) H73)) = some true := by
  obtain ⟨H1, s1, q1, c1, p1, d1, rs1, rows1, e1, x1, o1, S1, P1, r1⟩ := decode_eq (k := k) hk0 h hc (by omega) hbs
  have F1 := decR_few hbs r1
  obtain ⟨H2, hH2⟩ : ∃ H2, H2 = H1 ++ [some (⟨[.int .i64 s1, .slice q1 rs1.length c1, .slice p1 rows1.length d1], false, 0⟩ : Blk)] := ⟨_, rfl⟩
  have o2 : Old H1.length H1 H2 := hH2 ▸ Old.app _ _
  have A := at3 (show Owns H2 H1.length [.int .i64 s1, .slice q1 rs1.length c1, .slice p1 rows1.length d1] 0 by rw [hH2]; exact hblk_new H1 _)
  refine (x1 _ _).trans (go_halst hH2 rfl rfl ?_)
  by_cases he : e1 = 0
  case neg =>
    have hr := dec_err r1 he
    refine go_t (by rw [bne_iff_ne]; exact he) (go_fad (go_l A.b' (go_t (by rw [hr]; rfl) rfl)))
  subst he
  obtain ⟨hv, hb⟩ := enc_dec hbs r1
  have hR : encR s1 rs1 rows1 = bs := by unfold encR; rw [if_pos hv, hb]
  obtain ⟨H3, q3, c3, e3, o3, S3, _⟩ := encode_eq (k := k) (by omega) s1 c1 d1 (S1.keep o2) (P1.keep o2) F1
  rw [hR, hv] at e3
  rw [hR] at S3
  refine go_f rfl (go_ip A.a (go_lp A.b' (go_lp A.c' ((e3 _ _).trans (go_t rfl ((b2s_eq S3 _ _).trans ((b2s_eq ((h.keep o1).keep (o2.trans (o3.mono o2.1))) _ _).trans (go_t (ba_beq _) rfl))))))))
theorem restores_in (H : Heap) (us : List Value) (h : AllLies H [(dColor, true), (.slc (.int .u8), false)] us) : L_ColorspecRestores_c Bool 1000000 us H asB = some true := by
  obtain ⟨k, hk⟩ : ∃ k, k = 1000000 := ⟨_, rfl⟩
  rw [← hk]
  have hk0 : 100000 < k := by omega
  have hk1 : 80000 < k := by omega
  clear hk
  obtain ⟨cs, vs, rfl, hs, h⟩ := lies_agg h
  obtain ⟨qb, cb, es, vs, rfl, hc1, hc2, hsh, hB, h⟩ := lies_slc h
  obtain rfl := lies_nil h
  obtain ⟨s, q, rs, c, q2, rows, c2, rfl, hS, hP, _⟩ := color_of hs
  obtain ⟨bs, hbl, hbf, hbs⟩ := bytes_of es hsh
  rw [hbf] at hB
  rw [← hbl] at hc1 ⊢
  have hcu : cb = unk ∨ bs.length ≤ cb ∧ cb < unk := .inr ⟨hc1, by unfold unk; unfold maxLen at hc2; omega⟩
  show L_ColorspecRestores k s q rs.length c q2 rows.length c2 qb bs.length cb H (fun t H => asB (.bool t) H) = some true
  obtain ⟨H1, hH1⟩ : ∃ H1, H1 = H ++ [some (⟨[.int .i64 s, .slice q rs.length c, .slice q2 rows.length c2], false, 0⟩ : Blk)] := ⟨_, rfl⟩
  have o1 : Old H.length H H1 := hH1 ▸ Old.app _ _
  have A1 := at3 (show Owns H1 H.length [.int .i64 s, .slice q rs.length c, .slice q2 rows.length c2] 0 by rw [hH1]; exact hblk_new H _)
  have l1 : H1.length = H.length + 1 := by rw [hH1]; simp
  obtain ⟨H2, e2, o2⟩ := Few_eq (k := k) hk1 (rs := rs) (q := q) s c c2 (hP.keep o1)
  have o02 := o1.trans (o2.mono (by omega))
  have l2 := o2.1
  have A2 := A1.old o2 (by omega)
  unfold L_ColorspecRestores L_ColorspecRestores_b L_ColorspecRestores_p0 L_ColorspecRestores_p0_b
  refine go_halN hH1 (go_ip A1.a (go_lp A1.b' (go_lp A1.c' ((e2 _ _).trans ?_))))
  cases hf : fewB rs rows with
  | false => exact go_t rfl (go_t rfl rfl)
  | true =>
    have F := few_of hf
    refine go_f rfl ?_
    by_cases h5 : bs.length > 5000
    · exact go_t (decide_eq_true (by omega)) rfl
    obtain ⟨H3, q3, c3, e3, o3, S3, C3⟩ := encode_eq (k := k) hk1 s c c2 (hS.keep o02) (hP.keep o02) F
    have l3 := o3.1
    have o03 := o02.trans (o3.mono (by omega))
    have A3 := A2.old o3 (by omega)
    refine go_f (decide_eq_false (by omega)) (go_ip A2.a (go_lp A2.b' (go_lp A2.c' ((e3 _ _).trans ?_))))
    unfold L_ColorspecRestores_p1 L_ColorspecRestores_p1_b
    by_cases hv : validI s rs rows = 0
    case neg =>
      refine go_f (by rw [beq_eq_false_iff_ne]; exact hv) ?_
      exact rest2 hk0 (hB.keep o03) hcu (by omega) hbs
    have hR : encR s rs rows = encB s rs rows := by unfold encR; rw [if_pos hv]
    rw [hR] at S3 C3 ⊢
    rw [hv]
    have hel := enc_len hv
    obtain ⟨H4, s4, q4, c4, p4, d4, rs4, rows4, e4, x4, o4, S4, P4, r4⟩ := decode_eq (k := k) hk0 S3 C3 (by omega) (enc_bytes s rs rows)
    have l4 := o4.1
    rw [dec_enc hv] at r4
    simp only [Prod.mk.injEq] at r4
    obtain ⟨f1, f2, f3, f4⟩ := r4
    obtain ⟨H5, hH5⟩ : ∃ H5, H5 = H4 ++ [some (⟨[.int .i64 s4, .slice q4 rs4.length c4, .slice p4 rows4.length d4], false, 0⟩ : Blk)] := ⟨_, rfl⟩
    have o5 : Old H4.length H4 H5 := hH5 ▸ Old.app _ _
    have l5 := o5.1
    have B5 := at3 (show Owns H5 H4.length [.int .i64 s4, .slice q4 rs4.length c4, .slice p4 rows4.length d4] 0 by rw [hH5]; exact hblk_new H4 _)
    have o35 : Old H3.length H3 H5 := o4.trans (o5.mono l4)
    have A5 := A3.old o35 (by omega)
    have o05 := o03.trans (o35.mono (by omega))
    have hsame : sameB s rs rows s4 rs4 rows4 = true := by unfold sameB; rw [decide_eq_true f1.symm, decide_eq_true f2.symm, decide_eq_true f3.symm]; rfl
    obtain ⟨H6, e6, o6⟩ := same_eq (k := k) hk0 s s4 c c2 c4 d4 (hS.keep o05) (hP.keep o05) F (S4.keep o5) (P4.keep o5)
    have l6 := o6.1
    have o06 := o05.trans (o6.mono (by omega))
    obtain ⟨H7, e7, o7⟩ := rsame_eq (k := k) hk0 s s4 c c2 c4 d4 (hS.keep o06) (hP.keep o06) F ((S4.keep o5).keep o6) ((P4.keep o5).keep o6)
    rw [hsame] at e6 e7
    have A6 := A5.old o6 (by omega)
    have B6 := B5.old o6 (by rw [hH5]; simp)
    have o07 := o06.trans (o7.mono (by omega))
    refine go_t rfl ((x4 _ _).trans (go_halst hH5 rfl rfl (go_f (by rw [f4]; rfl) ?_)))
    refine go_ip A5.a (go_lp A5.b' (go_lp A5.c' (go_ip B5.a (go_lp B5.b' (go_lp B5.c' ((e6 _ _).trans (go_f rfl ?_)))))))
    refine go_ip A6.a (go_lp A6.b' (go_lp A6.c' (go_ip B6.a (go_lp B6.b' (go_lp B6.c' ((e7 _ _).trans (go_f rfl ?_)))))))
    exact rest2 hk0 (hB.keep o07) hcu (by omega) hbs
end Go.Proofs.Ytkjcjlembepdkaa.Sh
