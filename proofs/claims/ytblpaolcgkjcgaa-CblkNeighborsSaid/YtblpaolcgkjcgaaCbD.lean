/- Cblk: what the methods of the reference's block come to. -/
import Derived.Test.YtblpaolcgkjcgaaCbC
set_option linter.unusedVariables false
set_option linter.unusedSimpArgs false
namespace Go.Proofs.Ytblpaolcgkjcgaa.Sh
open Go.Proofs.Ytblpaolcgkjcgaa.FW
section
variable {R : Type} {H : Heap} {b1 b2 w h : Nat} {g : Nat → Cel}
theorem BlkR.keep {H' : Heap} (B : BlkR H b1 b2 w h g) (o : Old H.length H H') : BlkR H' b1 b2 w h g := ⟨B.hd.old o B.hd.lt, B.cs.old o B.cs.lt, B.bw, B.bh⟩
theorem BlkR.pos (B : BlkR H b1 b2 w h g) : 1 ≤ w * h := Nat.mul_le_mul B.bw.1 B.bh.1
theorem made_eq (B : BlkR H b1 b2 w h g) (K : Bool → Option R) : R14_Block_made (some ⟨b1, 0, none⟩) H K = K true := by
  obtain ⟨l1, l2, l3⟩ := B.lds R
  have hp := B.pos
  have e : decide ((((w * h : Nat) : Nat) : Int) > 0) = true := by simp only [decide_eq_true_eq]; omega
  unfold R14_Block_made R14_Block_made_b
  simp only [Option.isSome_some, cond_true, hnil, hfad, Nat.zero_add, l3, e]
theorem in_eq (B : BlkR H b1 b2 w h g) (x y : Int) (K : Bool → Option R) : R14_Block_in (some ⟨b1, 0, none⟩) x y H K = K (inn w h x y) := by
  obtain ⟨l1, l2, l3⟩ := B.lds R
  unfold R14_Block_in R14_Block_in_b inn
  rw [made_eq B]
  simp only [cond_true, hnil, hfad, Nat.zero_add, l1, l2]
  cases decide (0 ≤ x) <;> cases decide (x < (w : Int)) <;> cases decide (0 ≤ y) <;> simp
theorem ld4 {H : Heap} {b : Nat} {v : Int} {s t r : Bool} (h : Sees H b [.int .i64 v, .bool s, .bool t, .bool r]) (R : Type) : (∀ K : Int → Option R, ldI .i64 H (some ⟨b, 0, none⟩) K = K v) ∧ (∀ K : Bool → Option R, ldB H (some ⟨b, 1, none⟩) K = K s) ∧ (∀ K : Bool → Option R, ldB H (some ⟨b, 2, none⟩) K = K t) ∧ (∀ K : Bool → Option R, ldB H (some ⟨b, 3, none⟩) K = K r) :=
  ⟨fun K => ldI_of (by simp [pcell, h.cell]) rfl K, fun K => ldB_of (by simp [pcell, h.cell]) K, fun K => ldB_of (by simp [pcell, h.cell]) K, fun K => ldB_of (by simp [pcell, h.cell]) K⟩
theorem get_eq (B : BlkR H b1 b2 w h g) (x y : Int) : ∃ H', (∀ (R : Type) (K : Int → Bool → Bool → Bool → Heap → Option R), R14_Block_get (some ⟨b1, 0, none⟩) x y H K = K (gc w h g x y).v (gc w h g x y).s (gc w h g x y).t (gc w h g x y).r H') ∧ Old H.length H H' := by
  obtain ⟨p, H1, e1, hp, g1, g2, g3⟩ := hal_of H [.int .i64 0, .bool false, .bool false, .bool false]
  subst hp
  have B1 := B.keep g2
  obtain ⟨H2, e2, o2, n2, s2⟩ := hst_own (o := 0) (vs := (gc w h g x y).cells) g1 (by simp [Cel.cells]) rfl
  have o2' : Owns H2 H.length (gc w h g x y).cells 0 := by
    have : splice [.int .i64 0, .bool false, .bool false, .bool false] 0 (gc w h g x y).cells = (gc w h g x y).cells := by simp [splice, Cel.cells]
    rwa [this] at o2
  refine ⟨H2, fun R K => ?_, g2.trans (old_of n2 s2 (Nat.le_refl _))⟩
  obtain ⟨m1, m2, m3, m4⟩ := ld4 o2'.sees R
  obtain ⟨l1, l2, l3⟩ := B1.lds R
  unfold R14_Block_get R14_Block_get_b
  rw [e1, in_eq B1]
  cases e : inn w h x y with
  | false =>
    have hg : gc w h g x y = cel0 := by unfold gc; rw [e]; rfl
    rw [hg] at e2 m1 m2 m3 m4 ⊢
    simp only [Cel.cells, cel0] at e2
    simp only [Bool.not_false, cond_true, e2, pad, Nat.zero_add, m1, m2, m3, m4]
  | true =>
    have hg : gc w h g x y = g (ix w x y) := by unfold gc; rw [e]; rfl
    rw [hg] at e2 m1 m2 m3 m4 ⊢
    obtain ⟨c1, c2, c3, c4⟩ := B1.ldc (ix_lt e) R
    have hlt := ix_lt e
    simp only [Cel.cells] at e2
    simp only [Bool.not_true, cond_false, hnil, hfad, Nat.zero_add, l1, l3, wrap_ix B.bw.2 B.bh.2 e, hidx]
    rw [if_pos ⟨by omega, by omega⟩]
    simp only [pad, Nat.zero_add, Int.toNat_natCast, Nat.mul_comm (ix w x y) 4, Nat.add_zero, c1, c2, c3, c4, e2, m1, m2, m3, m4]
theorem ValueR_eq (B : BlkR H b1 b2 w h g) (x y : Int) : ∃ H', (∀ (R : Type) (K : Int → Heap → Option R), R14_Block_Value (some ⟨b1, 0, none⟩) x y H K = K (gc w h g x y).v H') ∧ Old H.length H H' := by
  obtain ⟨H', e, o⟩ := get_eq B x y
  exact ⟨H', fun R K => by unfold R14_Block_Value R14_Block_Value_b; rw [e], o⟩
theorem SignificantR_eq (B : BlkR H b1 b2 w h g) (x y : Int) : ∃ H', (∀ (R : Type) (K : Bool → Heap → Option R), R14_Block_Significant (some ⟨b1, 0, none⟩) x y H K = K (gc w h g x y).s H') ∧ Old H.length H H' := by
  obtain ⟨H', e, o⟩ := get_eq B x y
  exact ⟨H', fun R K => by unfold R14_Block_Significant R14_Block_Significant_b; rw [e], o⟩
theorem TouchedR_eq (B : BlkR H b1 b2 w h g) (x y : Int) : ∃ H', (∀ (R : Type) (K : Bool → Heap → Option R), R14_Block_Touched (some ⟨b1, 0, none⟩) x y H K = K (gc w h g x y).t H') ∧ Old H.length H H' := by
  obtain ⟨H', e, o⟩ := get_eq B x y
  exact ⟨H', fun R K => by unfold R14_Block_Touched R14_Block_Touched_b; rw [e], o⟩
theorem RefinedR_eq (B : BlkR H b1 b2 w h g) (x y : Int) : ∃ H', (∀ (R : Type) (K : Bool → Heap → Option R), R14_Block_Refined (some ⟨b1, 0, none⟩) x y H K = K (gc w h g x y).r H') ∧ Old H.length H H' := by
  obtain ⟨H', e, o⟩ := get_eq B x y
  exact ⟨H', fun R K => by unfold R14_Block_Refined R14_Block_Refined_b; rw [e], o⟩
theorem count_eq (B : BlkR H b1 b2 w h g) (x y : Int) : ∃ H', (∀ (R : Type) (K : Int → Heap → Option R), R14_Block_count (some ⟨b1, 0, none⟩) x y H K = K (cnt w h g x y) H') ∧ Old H.length H H' := by
  obtain ⟨H', e, o⟩ := get_eq B x y
  refine ⟨H', fun R K => ?_, o⟩
  unfold R14_Block_count R14_Block_count_b cnt
  rw [e]
  cases (gc w h g x y).s <;> rfl
theorem signR_eq (B : BlkR H b1 b2 w h g) (x y : Int) : ∃ H', (∀ (R : Type) (K : Int → Heap → Option R), R14_Block_sign (some ⟨b1, 0, none⟩) x y H K = K (sgn w h g x y) H') ∧ Old H.length H H' := by
  obtain ⟨H0, e0, o0⟩ := get_eq B x y
  obtain ⟨p, H1, e1, hp, g1, g2, g3⟩ := hal_of H0 [.int .i64 0, .bool false, .bool false, .bool false]
  subst hp
  obtain ⟨H2, e2, o2, n2, s2⟩ := hst_own (o := 0) (vs := (gc w h g x y).cells) g1 (by simp [Cel.cells]) rfl
  have o2' : Owns H2 H0.length (gc w h g x y).cells 0 := by
    have : splice [.int .i64 0, .bool false, .bool false, .bool false] 0 (gc w h g x y).cells = (gc w h g x y).cells := by simp [splice, Cel.cells]
    rwa [this] at o2
  refine ⟨H2, fun R K => ?_, o0.trans ((g2.trans (old_of n2 s2 (Nat.le_refl _))).mono o0.1)⟩
  obtain ⟨m1, m2, m3, m4⟩ := ld4 o2'.sees R
  unfold R14_Block_sign R14_Block_sign_b sgn
  simp only [Cel.cells] at e2
  rw [e0, e1, e2]
  simp only [hfad, Nat.zero_add, m1, m2]
  cases (gc w h g x y).s with
  | false => rfl
  | true =>
    simp only [Bool.not_true, cond_false, cond_true]
    cases decide ((gc w h g x y).v < 0) <;> rfl
theorem NeighborsR_eq (k : Nat) (B : BlkR H b1 b2 w h g) (x y : Int) (c : Bool) : ∃ H', (∀ (R : Type) (K : Int → Int → Int → Heap → Option R), R14_Block_Neighbors k (some ⟨b1, 0, none⟩) x y c H K = K (nb w h g x y c).1 (nb w h g x y c).2.1 (nb w h g x y c).2.2 H') ∧ Old H.length H H' := by
  unfold nb
  cases e : inn w h x y with
  | false =>
    refine ⟨H, fun R K => ?_, .refl _ _⟩
    unfold R14_Block_Neighbors R14_Block_Neighbors_b
    rw [in_eq B, e]; rfl
  | true =>
    have hxy := inn_wf B.bw.2 B.bh.2 e
    have wb : ∀ n : Int, -10 ≤ n → n ≤ 100 → IntKind.wrap .i64 n = n := fun n h1 h2 => w64 (by omega) (by omega)
    obtain ⟨H1, e1, o1⟩ := count_eq B (x - 1) y
    have B1 := B.keep o1
    obtain ⟨H2, e2, o2⟩ := count_eq B1 (x + 1) y
    have B2 := B1.keep o2
    obtain ⟨H3, e3, o3⟩ := count_eq B2 x (y - 1)
    have B3 := B2.keep o3
    obtain ⟨H4, e4, o4⟩ := count_eq B3 (x - 1) (y - 1)
    have B4 := B3.keep o4
    obtain ⟨H5, e5, o5⟩ := count_eq B4 (x + 1) (y - 1)
    have B5 := B4.keep o5
    obtain ⟨H6, e6, o6⟩ := count_eq B5 x (y + 1)
    have B6 := B5.keep o6
    obtain ⟨H7, e7, o7⟩ := count_eq B6 (x - 1) (y + 1)
    have B7 := B6.keep o7
    obtain ⟨H8, e8, o8⟩ := count_eq B7 (x + 1) (y + 1)
    have c1 := cnt_01 w h g (x - 1) y
    have c2 := cnt_01 w h g (x + 1) y
    have c3 := cnt_01 w h g x (y - 1)
    have c4 := cnt_01 w h g (x - 1) (y - 1)
    have c5 := cnt_01 w h g (x + 1) (y - 1)
    have c6 := cnt_01 w h g x (y + 1)
    have c7 := cnt_01 w h g (x - 1) (y + 1)
    have c8 := cnt_01 w h g (x + 1) (y + 1)
    have hl1 := o1.1
    have hl2 := o2.1
    have hl3 := o3.1
    have hl4 := o4.1
    have hl5 := o5.1
    have hl6 := o6.1
    have hl7 := o7.1
    have o15 : Old H.length H H5 := o1.trans ((o2.mono (by omega)).trans ((o3.mono (by omega)).trans ((o4.mono (by omega)).trans (o5.mono (by omega)))))
    have o18 : Old H.length H H8 := o15.trans ((o6.mono (by omega)).trans ((o7.mono (by omega)).trans (o8.mono (by omega))))
    cases hb : (!c || Int.tmod y 4 != 3) with
    | true =>
      refine ⟨H8, fun R K => ?_, o18⟩
      unfold R14_Block_Neighbors R14_Block_Neighbors_b R14_Block_Neighbors_p0 R14_Block_Neighbors_p0_b
      rw [in_eq B, e]
      simp only [Bool.not_true, cond_false, cond_true, wb (x - 1) (by omega) (by omega), wb (x + 1) (by omega) (by omega), wb (y - 1) (by omega) (by omega), wb (y + 1) (by omega) (by omega), e1, e2, e3, e4, e5, e6, e7, e8]
      rw [wb (cnt w h g (x - 1) y + cnt w h g (x + 1) y) (by omega) (by omega), wb (cnt w h g (x - 1) (y - 1) + cnt w h g (x + 1) (y - 1)) (by omega) (by omega), wb (cnt w h g x (y - 1) + cnt w h g x (y + 1)) (by omega) (by omega), wb (cnt w h g (x - 1) (y - 1) + cnt w h g (x + 1) (y - 1) + cnt w h g (x - 1) (y + 1)) (by omega) (by omega), wb (cnt w h g (x - 1) (y - 1) + cnt w h g (x + 1) (y - 1) + cnt w h g (x - 1) (y + 1) + cnt w h g (x + 1) (y + 1)) (by omega) (by omega)]
      rw [show cnt w h g (x - 1) (y - 1) + cnt w h g (x + 1) (y - 1) + (cnt w h g (x - 1) (y + 1) + cnt w h g (x + 1) (y + 1)) = cnt w h g (x - 1) (y - 1) + cnt w h g (x + 1) (y - 1) + cnt w h g (x - 1) (y + 1) + cnt w h g (x + 1) (y + 1) from by omega]
      cases c with
      | false => rfl
      | true => simp only [Bool.not_true, cond_false, Bool.false_or] at hb ⊢; rw [hb]; rfl
    | false =>
      refine ⟨H5, fun R K => ?_, o15⟩
      unfold R14_Block_Neighbors R14_Block_Neighbors_b R14_Block_Neighbors_p0 R14_Block_Neighbors_p0_b
      rw [in_eq B, e]
      simp only [Bool.not_true, cond_false, cond_true, wb (x - 1) (by omega) (by omega), wb (x + 1) (by omega) (by omega), wb (y - 1) (by omega) (by omega), wb (y + 1) (by omega) (by omega), e1, e2, e3, e4, e5]
      rw [wb (cnt w h g (x - 1) y + cnt w h g (x + 1) y) (by omega) (by omega), wb (cnt w h g (x - 1) (y - 1) + cnt w h g (x + 1) (y - 1)) (by omega) (by omega)]
      cases c with
      | false => simp at hb
      | true => simp only [Bool.not_true, cond_false, Bool.false_or] at hb ⊢; rw [hb]; simp
end
end Go.Proofs.Ytblpaolcgkjcgaa.Sh
