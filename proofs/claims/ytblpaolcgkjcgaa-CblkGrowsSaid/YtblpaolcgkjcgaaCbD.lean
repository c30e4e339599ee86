/- Cblk: what the methods of the reference's block come to. -/
import Derived.Test.YtblpaolcgkjcgaaCbC
set_option linter.unusedVariables false
set_option linter.unusedSimpArgs false
namespace Go.Proofs.Ytblpaolcgkjcgaa.Sh
open Go.Proofs.Ytblpaolcgkjcgaa.FW
section
variable {R : Type} {H : Heap} {b1 b2 w h : Nat} {g : Nat → Cel}
theorem BlkR.keep {H' : Heap} (B : BlkR H b1 b2 w h g) (o : Old H.length H H') : BlkR H' b1 b2 w h g := ⟨B.hd.old o B.hd.lt, B.cs.old o B.cs.lt, B.bw, B.bh⟩
theorem BlkR.pos (B : BlkR H b1 b2 w h g) : 1 ≤ w * h := Nat.mul_le_mul B.bw.1 B.bh.1
theorem made_eq (B : BlkR H b1 b2 w h g) (K : Bool → Option R) : R14_Block_made (some ⟨b1, 0, none⟩) H K = K true := by
  obtain ⟨l1, l2, l3⟩ := B.lds R
  have hp := B.pos
  have e : decide ((((w * h : Nat) : Nat) : Int) > 0) = true := by simp only [decide_eq_true_eq]; omega
  unfold R14_Block_made R14_Block_made_b
  simp only [Option.isSome_some, cond_true, hnil, hfad, Nat.zero_add, l3, e]
theorem in_eq (B : BlkR H b1 b2 w h g) (x y : Int) (K : Bool → Option R) : R14_Block_in (some ⟨b1, 0, none⟩) x y H K = K (inn w h x y) := by
  obtain ⟨l1, l2, l3⟩ := B.lds R
  unfold R14_Block_in R14_Block_in_b inn
  rw [made_eq B]
  simp only [cond_true, hnil, hfad, Nat.zero_add, l1, l2]
  cases decide (0 ≤ x) <;> cases decide (x < (w : Int)) <;> cases decide (0 ≤ y) <;> simp
theorem ld4 {H : Heap} {b : Nat} {v : Int} {s t r : Bool} (h : Sees H b [.int .i64 v, .bool s, .bool t, .bool r]) (R : Type) : (∀ K : Int → Option R, ldI .i64 H (some ⟨b, 0, none⟩) K = K v) ∧ (∀ K : Bool → Option R, ldB H (some ⟨b, 1, none⟩) K = K s) ∧ (∀ K : Bool → Option R, ldB H (some ⟨b, 2, none⟩) K = K t) ∧ (∀ K : Bool → Option R, ldB H (some ⟨b, 3, none⟩) K = K r) :=
  ⟨fun K => ldI_of (by simp [pcell, h.cell]) rfl K, fun K => ldB_of (by simp [pcell, h.cell]) K, fun K => ldB_of (by simp [pcell, h.cell]) K, fun K => ldB_of (by simp [pcell, h.cell]) K⟩
theorem get_eq (B : BlkR H b1 b2 w h g) (x y : Int) : ∃ H', (∀ (R : Type) (K : Int → Bool → Bool → Bool → Heap → Option R), R14_Block_get (some ⟨b1, 0, none⟩) x y H K = K (gc w h g x y).v (gc w h g x y).s (gc w h g x y).t (gc w h g x y).r H') ∧ Old H.length H H' := by
  obtain ⟨p, H1, e1, hp, g1, g2, g3⟩ := hal_of H [.int .i64 0, .bool false, .bool false, .bool false]
  subst hp
  have B1 := B.keep g2
  obtain ⟨H2, e2, o2, n2, s2⟩ := hst_own (o := 0) (vs := (gc w h g x y).cells) g1 (by simp [Cel.cells]) rfl
  have o2' : Owns H2 H.length (gc w h g x y).cells 0 := by
    have : splice [.int .i64 0, .bool false, .bool false, .bool false] 0 (gc w h g x y).cells = (gc w h g x y).cells := by simp [splice, Cel.cells]
    rwa [this] at o2
  refine ⟨H2, fun R K => ?_, g2.trans (old_of n2 s2 (Nat.le_refl _))⟩
  obtain ⟨m1, m2, m3, m4⟩ := ld4 o2'.sees R
  obtain ⟨l1, l2, l3⟩ := B1.lds R
  unfold R14_Block_get R14_Block_get_b
  rw [e1, in_eq B1]
  cases e : inn w h x y with
  | false =>
    have hg : gc w h g x y = cel0 := by unfold gc; rw [e]; rfl
    rw [hg] at e2 m1 m2 m3 m4 ⊢
    simp only [Cel.cells, cel0] at e2
    simp only [Bool.not_false, cond_true, e2, pad, Nat.zero_add, m1, m2, m3, m4]
  | true =>
    have hg : gc w h g x y = g (ix w x y) := by unfold gc; rw [e]; rfl
    rw [hg] at e2 m1 m2 m3 m4 ⊢
    obtain ⟨c1, c2, c3, c4⟩ := B1.ldc (ix_lt e) R
    have hlt := ix_lt e
    simp only [Cel.cells] at e2
    simp only [Bool.not_true, cond_false, hnil, hfad, Nat.zero_add, l1, l3, wrap_ix B.bw.2 B.bh.2 e, hidx]
    rw [if_pos ⟨by omega, by omega⟩]
    simp only [pad, Nat.zero_add, Int.toNat_natCast, Nat.mul_comm (ix w x y) 4, Nat.add_zero, c1, c2, c3, c4, e2, m1, m2, m3, m4]
end
end Go.Proofs.Ytblpaolcgkjcgaa.Sh
