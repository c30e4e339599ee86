/- Colorspec: L_ColorspecDecodes answers true. -/
import Derived.Test.YtkjcjlembepdkaaSh15
import Derived.Test.YtkjcjlembepdkaaCsO
set_option linter.unusedVariables false
set_option linter.unusedSimpArgs false
namespace Go.Proofs.Ytkjcjlembepdkaa.Sh
open Go.Proofs.Ytkjcjlembepdkaa.FW
theorem wf_8 {a : Int} (h : (Lit.int .u8 a).wf = true) : 0 ≤ a ∧ a ≤ 255 := by
  simp only [Lit.wf, IntKind.min, IntKind.max, IntKind.signed, IntKind.bits, Bool.and_eq_true, decide_eq_true_eq, if_true, Bool.false_eq_true, if_false] at h
  exact ⟨by omega, by omega⟩
theorem bytes_of {H : Heap} : ∀ (es : List (List Value)), (∀ e ∈ es, Shp (.int .u8) H e) → ∃ xs : List Int, xs.length = es.length ∧ es.flatten = byt xs ∧ ∀ v ∈ xs, 0 ≤ v ∧ v ≤ 255 := by
  intro es
  induction es with
  | nil => intro _; exact ⟨[], rfl, rfl, fun v h => by cases h⟩
  | cons e es ih =>
    intro h
    obtain ⟨xs, h1, h2, h3⟩ := ih fun x hx => h x (List.mem_cons_of_mem _ hx)
    obtain ⟨a, rfl, ha⟩ := h e (by simp)
    refine ⟨a :: xs, by simp [h1], by rw [List.flatten_cons, h2]; rfl, fun v hv => ?_⟩
    rcases List.mem_cons.1 hv with rfl | hv
    · exact wf_8 ha
    · exact h3 v hv
theorem chunks_le (n : Nat) : ∀ (m : Nat) (l : List Int), ∀ x ∈ chunks n m l, x.length ≤ n := by
  intro m
  induction m with
  | zero => intro l x hx; cases hx
  | succ m ih =>
    intro l x hx
    rcases List.mem_cons.1 hx with rfl | hx
    · rw [List.length_take]; omega
    · exact ih _ x hx
theorem getD_byte {bs : List Int} (hbs : ∀ x ∈ bs, 0 ≤ x ∧ x ≤ 255) (i : Nat) : 0 ≤ bs.getD i 0 ∧ bs.getD i 0 ≤ 255 := by
  by_cases hi : i < bs.length
  · exact (byte_of hbs hi).2
  · have : bs.getD i 0 = 0 := by rw [List.getD_eq_getElem?_getD, List.getElem?_eq_none (by omega)]; rfl
    omega
theorem decR_few {bs : List Int} (hbs : ∀ x ∈ bs, 0 ≤ x ∧ x ≤ 255) {s : Int} {rs : List Int} {rows : List Rw} {e : Int} (h : (s, rs, cons rows, e) = decR bs) : FewC rs rows := by
  have key : ∀ cs : List (List Int), (s, rs, cs, e) = decR bs → rs.length ≤ 255 ∧ cs.length ≤ 65535 ∧ ∀ x ∈ cs, x.length ≤ 255 := by
    intro cs h
    have hn := getD_byte hbs 1
    have ha := getD_byte hbs (dn bs + 2)
    have hb := getD_byte hbs (dn bs + 3)
    have hn' : dn bs ≤ 255 := by unfold dn; omega
    have hm' : dm bs ≤ 65535 := by unfold dm; omega
    have triv : ∀ {z : Int}, (s, rs, cs, e) = ((0 : Int), ([] : List Int), ([] : List (List Int)), z) → rs.length ≤ 255 ∧ cs.length ≤ 65535 ∧ ∀ x ∈ cs, x.length ≤ 255 := fun h => by
      simp only [Prod.mk.injEq] at h
      obtain ⟨_, rfl, rfl, _⟩ := h
      exact ⟨by simp, by simp, fun x hx => by cases hx⟩
    unfold decR at h
    split at h
    · exact triv h
    split at h
    · exact triv h
    split at h
    · exact triv h
    split at h
    · exact triv h
    unfold dec2 at h
    split at h
    · simp only [Prod.mk.injEq] at h
      obtain ⟨_, rfl, rfl, _⟩ := h
      exact ⟨by rw [List.length_take]; omega, by rw [chunks_len]; exact hm', fun x hx => Nat.le_trans (chunks_le _ _ _ x hx) hn'⟩
    · exact triv h
  obtain ⟨h1, h2, h3⟩ := key _ h
  rw [cons_len] at h2
  exact ⟨by omega, by omega, fun r hr => by have := h3 r.2.2 (List.mem_map.2 ⟨r, hr, rfl⟩); omega⟩
theorem decodes_in (H : Heap) (us : List Value) (h : AllLies H [(.slc (.int .u8), false)] us) : L_ColorspecDecodes_c Bool 1000000 us H asB = some true := by
  obtain ⟨k, hk⟩ : ∃ k, k = 1000000 := ⟨_, rfl⟩
  rw [← hk]
  have hk0 : 100000 < k := by omega
  clear hk
  obtain ⟨q, c, es, vs, rfl, hc1, hc2, hsh, hS, h⟩ := lies_slc h
  obtain rfl := lies_nil h
  obtain ⟨bs, hbl, hbf, hbs⟩ := bytes_of es hsh
  rw [hbf] at hS
  rw [← hbl] at hc1 ⊢
  show L_ColorspecDecodes k q bs.length c H (fun t H => asB (.bool t) H) = some true
  have hcu : c = unk ∨ bs.length ≤ c ∧ c < unk := .inr ⟨hc1, by unfold unk; unfold maxLen at hc2; omega⟩
  unfold L_ColorspecDecodes L_ColorspecDecodes_b
  by_cases h5 : bs.length > 5000
  · exact go_t (decide_eq_true (by omega)) rfl
  refine go_f (decide_eq_false (by omega)) ?_
  obtain ⟨H1, s1, q1, c1, p1, d1, rs1, rows1, e1, x1, o1, S1, P1, r1⟩ := decode_eq (k := k) hk0 hS hcu (by omega) hbs
  have F1 := decR_few hbs r1
  obtain ⟨H2, hH2⟩ : ∃ H2, H2 = H1 ++ [some (⟨[.int .i64 s1, .slice q1 rs1.length c1, .slice p1 rows1.length d1], false, 0⟩ : Blk)] := ⟨_, rfl⟩
  have o2 : Old H1.length H1 H2 := hH2 ▸ Old.app _ _
  have O2 : Owns H2 H1.length [.int .i64 s1, .slice q1 rs1.length c1, .slice p1 rows1.length d1] 0 := by rw [hH2]; exact hblk_new H1 _
  have l2 : H2.length = H1.length + 1 := by rw [hH2]; simp
  have o02 : Old H.length H H2 := o1.trans (o2.mono o1.1)
  obtain ⟨H3, s3, q3, c3, p3, d3, rs3, rows3, e3, x3, o3, S3, P3, r3⟩ := rdecode_eq (k := k) hk0 (hS.keep o02) hcu (by omega) hbs
  obtain ⟨H4, hH4⟩ : ∃ H4, H4 = H3 ++ [some (⟨[.int .i64 s3, .slice q3 rs3.length c3, .slice p3 rows3.length d3], false, 0⟩ : Blk)] := ⟨_, rfl⟩
  have o4 : Old H3.length H3 H4 := hH4 ▸ Old.app _ _
  have O4 : Owns H4 H3.length [.int .i64 s3, .slice q3 rs3.length c3, .slice p3 rows3.length d3] 0 := by rw [hH4]; exact hblk_new H3 _
  have l3 := o3.1
  have o24 : Old H2.length H2 H4 := o3.trans (o4.mono l3)
  have A := at3 (O2.old o24 (by omega))
  have B := at3 O4
  have o14 : Old H1.length H1 H4 := o2.trans (o24.mono (by omega))
  have he := r1.trans r3.symm
  simp only [Prod.mk.injEq] at he
  obtain ⟨hs, hr, hcn, hee⟩ := he
  obtain ⟨H5, e5, o5⟩ := rsame_eq (k := k) hk0 s1 s3 c1 d1 c3 d3 (S1.keep o14) (P1.keep o14) F1 (S3.keep o4) (P3.keep o4)
  have hsame : sameB s1 rs1 rows1 s3 rs3 rows3 = true := by unfold sameB; rw [decide_eq_true hs, decide_eq_true hr, decide_eq_true hcn]; rfl
  rw [hsame] at e5
  refine (x1 _ _).trans (go_halst hH2 rfl rfl ((x3 _ _).trans (go_halst hH4 rfl rfl (go_ip A.a (go_lp A.b' (go_lp A.c' (go_ip B.a (go_lp B.b' (go_lp B.c' ((e5 _ _).trans (go_t rfl (go_t (by rw [hee]; exact beq_self_eq_true _) rfl))))))))))))
end Go.Proofs.Ytkjcjlembepdkaa.Sh
