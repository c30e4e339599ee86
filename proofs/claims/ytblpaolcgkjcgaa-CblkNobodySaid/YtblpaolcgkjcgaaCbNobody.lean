/- The methods of nil and of a zero Block. -/
import Derived.Test.YtblpaolcgkjcgaaCbA
import Derived.Test.YtblpaolcgkjcgaaFwN
import Derived.Test.YtblpaolcgkjcgaaFwO
import Derived.Test.YtblpaolcgkjcgaaSh19
set_option linter.unusedVariables false
set_option linter.unusedSimpArgs false
namespace Go.Proofs.Ytblpaolcgkjcgaa.Sh
open Go.Proofs.Ytblpaolcgkjcgaa.FW
/-- Nil, or a block that nobody made. -/
def Dead (H : Heap) (p : Option Addr) : Prop := p = none ∨ ∃ b, p = some ⟨b, 0, none⟩ ∧ Sees H b [.int .i64 0, .int .i64 0, .slice none 0 0]
theorem Dead.old {N : Nat} {H H' : Heap} {p : Option Addr} (d : Dead H p) (o : Old H.length H H') : Dead H' p := by
  rcases d with rfl | ⟨b, rfl, h⟩
  · exact .inl rfl
  · exact .inr ⟨b, rfl, h.old o h.lt⟩
section
variable {R : Type} {H : Heap} {p : Option Addr}
theorem dead_lds {b : Nat} (h : Sees H b [.int .i64 0, .int .i64 0, .slice none 0 0]) (R : Type) : (∀ K : Int → Option R, ldI .i64 H (some ⟨b, 0, none⟩) K = K 0) ∧ (∀ K : Int → Option R, ldI .i64 H (some ⟨b, 1, none⟩) K = K 0) ∧ (∀ K : Option Addr → Nat → Nat → Option R, ldL H (some ⟨b, 2, none⟩) K = K none 0 0) :=
  ⟨fun K => ldI_of (by simp [pcell, h.cell]) rfl K, fun K => ldI_of (by simp [pcell, h.cell]) rfl K, fun K => ldL_of (by simp [pcell, h.cell]) K⟩
theorem dead_at (d : Dead H p) (k : Nat) (x y : Int) (K : Option Addr → Option R) : cblk_Block_at k p x y H K = K none := by
  unfold cblk_Block_at cblk_Block_at_b cblk_Block_at_p0 cblk_Block_at_p0_b
  rcases d with rfl | ⟨b, rfl, h⟩
  · rfl
  · obtain ⟨l1, l2, l3⟩ := dead_lds h R
    simp only [Option.isNone_some, cond_false, hnil, hfad, Nat.zero_add, l1, l2, l3]
    by_cases c1 : x < 0
    · have : decide (x < 0) = true := by simpa using c1
      simp only [this, cond_true]
    · have e1 : decide (x < 0) = false := by simpa using c1
      have e2 : decide (x ≥ 0) = true := by simp; omega
      simp only [e1, e2, cond_true, cond_false]
theorem dead_missing (d : Dead H p) (K : Int → Option R) : cblk_Block_missing p H K = K 6 := by
  unfold cblk_Block_missing cblk_Block_missing_b
  rcases d with rfl | ⟨b, rfl, h⟩
  · rfl
  · obtain ⟨l1, l2, l3⟩ := dead_lds h R
    simp only [Option.isNone_some, cond_false, hnil, hfad, Nat.zero_add, l3]
    rfl
theorem dead_Size (d : Dead H p) (K : Int → Int → Option R) : cblk_Block_Size p H K = K 0 0 := by
  unfold cblk_Block_Size cblk_Block_Size_b
  rcases d with rfl | ⟨b, rfl, h⟩
  · rfl
  · obtain ⟨l1, l2, l3⟩ := dead_lds h R
    simp only [Option.isNone_some, cond_false, hnil, hfad, Nat.zero_add, l1, l2]
theorem dead_Set (d : Dead H p) (k : Nat) (x y v : Int) (K : Int → Heap → Option R) : cblk_Block_Set k p x y v H K = K 6 H := by
  unfold cblk_Block_Set cblk_Block_Set_b
  simp only [dead_at d, Option.isNone_none, cond_true, dead_missing d]
theorem dead_Mark (d : Dead H p) (k : Nat) (x y : Int) (K : Int → Heap → Option R) : cblk_Block_Mark k p x y H K = K 6 H := by
  unfold cblk_Block_Mark cblk_Block_Mark_b
  simp only [dead_at d, Option.isNone_none, cond_true, dead_missing d]
theorem dead_Touch (d : Dead H p) (k : Nat) (x y : Int) (t : Bool) (K : Int → Heap → Option R) : cblk_Block_Touch k p x y t H K = K 6 H := by
  unfold cblk_Block_Touch cblk_Block_Touch_b
  simp only [dead_at d, Option.isNone_none, cond_true, dead_missing d]
theorem dead_Refine (d : Dead H p) (k : Nat) (x y : Int) (K : Int → Heap → Option R) : cblk_Block_Refine k p x y H K = K 6 H := by
  unfold cblk_Block_Refine cblk_Block_Refine_b
  simp only [dead_at d, Option.isNone_none, cond_true, dead_missing d]
theorem dead_Value (d : Dead H p) (k : Nat) (x y : Int) (K : Int → Option R) : cblk_Block_Value k p x y H K = K 0 := by
  unfold cblk_Block_Value cblk_Block_Value_b
  simp only [dead_at d, Option.isSome_none, cond_false]
theorem dead_Significant (d : Dead H p) (k : Nat) (x y : Int) (K : Bool → Option R) : cblk_Block_Significant k p x y H K = K false := by
  unfold cblk_Block_Significant cblk_Block_Significant_b
  simp only [dead_at d, Option.isSome_none, cond_false]
theorem dead_Touched (d : Dead H p) (k : Nat) (x y : Int) (K : Bool → Option R) : cblk_Block_Touched k p x y H K = K false := by
  unfold cblk_Block_Touched cblk_Block_Touched_b
  simp only [dead_at d, Option.isSome_none, cond_false]
theorem dead_Refined (d : Dead H p) (k : Nat) (x y : Int) (K : Bool → Option R) : cblk_Block_Refined k p x y H K = K false := by
  unfold cblk_Block_Refined cblk_Block_Refined_b
  simp only [dead_at d, Option.isSome_none, cond_false]
theorem dead_Neighbors (d : Dead H p) (k : Nat) (x y : Int) (c : Bool) (K : Int → Int → Int → Option R) : cblk_Block_Neighbors k p x y c H K = K 0 0 0 := by
  unfold cblk_Block_Neighbors cblk_Block_Neighbors_b
  simp only [dead_at d, Option.isNone_none, cond_true]
theorem dead_Signs (d : Dead H p) (k : Nat) (x y : Int) (c : Bool) (K : Int → Int → Option R) : cblk_Block_Signs k p x y c H K = K 0 0 := by
  unfold cblk_Block_Signs cblk_Block_Signs_b
  simp only [dead_at d, Option.isNone_none, cond_true]
theorem dead_do (d : Dead H p) (k : Nat) (kd x y v : Int) : ∃ H', (∀ (R : Type) (K : Int → Heap → Option R), L_do k p kd x y v H K = K 6 H') ∧ Old H.length H H' := by
  obtain ⟨q, H1, e1, hq, g1, g2, g3⟩ := hal_of H [.int .i64 kd, .int .i64 x, .int .i64 y, .int .i64 v]
  subst hq
  have d1 : Dead H1 p := d.old (N := 0) g2
  refine ⟨H1, fun R K => ?_, g2⟩
  have m0 : ∀ K : Int → Option R, ldI .i64 H1 (some ⟨H.length, 0, none⟩) K = K kd := fun K => ldI_of (by rw [Owns.at g1]; rfl) rfl K
  have m1 : ∀ K : Int → Option R, ldI .i64 H1 (some ⟨H.length, 1, none⟩) K = K x := fun K => ldI_of (by rw [Owns.at g1]; rfl) rfl K
  have m2 : ∀ K : Int → Option R, ldI .i64 H1 (some ⟨H.length, 2, none⟩) K = K y := fun K => ldI_of (by rw [Owns.at g1]; rfl) rfl K
  have m3 : ∀ K : Int → Option R, ldI .i64 H1 (some ⟨H.length, 3, none⟩) K = K v := fun K => ldI_of (by rw [Owns.at g1]; rfl) rfl K
  unfold L_do L_do_b
  simp only [e1, hfad, Nat.zero_add, m0, m1, m2, m3, dead_Set d1, dead_Mark d1, dead_Touch d1, dead_Refine d1]
  cases (kd == 0) <;> cases (kd == 1) <;> cases (kd == 2) <;> cases (kd == 3) <;> rfl
/-- One block of the law. -/
theorem nobody_p1 (k : Nat) (t : Bool) {b c : Nat} {kd x y v : Int} {i : Int} (hi : 0 ≤ i ∧ i < 2) {cs : List Value} (h1 : Sees H b [.int .i64 kd, .int .i64 x, .int .i64 y, .int .i64 v]) (h2 : Sees H c cs) (hp : cs[i.toNat]? = some (.pointer p)) (d : Dead H p) (l cc : Nat) (n : Int) :
    ∃ H', (∀ (R : Type) (KN : Bool → Option Addr → Option Addr → Nat → Nat → Int → Int → Heap → Option R) (KR : Bool → Heap → Option R), L_CblkNobody_p1 k t (some ⟨b, 0, none⟩) (some ⟨c, 0, none⟩) 2 2 n i H KN KR = KN t (some ⟨b, 0, none⟩) (some ⟨c, 0, none⟩) 2 2 n i H') ∧ Old H.length H H' := by
  obtain ⟨H1, e1, o1⟩ := dead_do d k kd x y v
  have d1 : Dead H1 p := d.old (N := 0) o1
  have h1' := h1.old o1 h1.lt
  refine ⟨H1, fun R KN KR => ?_, o1⟩
  have m0 : ∀ K : Int → Option R, ldI .i64 H (some ⟨b, 0, none⟩) K = K kd := fun K => ldI_of (by simp [pcell, h1.cell]) rfl K
  have m1 : ∀ K : Int → Option R, ldI .i64 H (some ⟨b, 1, none⟩) K = K x := fun K => ldI_of (by simp [pcell, h1.cell]) rfl K
  have m2 : ∀ K : Int → Option R, ldI .i64 H (some ⟨b, 2, none⟩) K = K y := fun K => ldI_of (by simp [pcell, h1.cell]) rfl K
  have m3 : ∀ K : Int → Option R, ldI .i64 H (some ⟨b, 3, none⟩) K = K v := fun K => ldI_of (by simp [pcell, h1.cell]) rfl K
  have n1 : ∀ K : Int → Option R, ldI .i64 H1 (some ⟨b, 1, none⟩) K = K x := fun K => ldI_of (by simp [pcell, h1'.cell]) rfl K
  have n2 : ∀ K : Int → Option R, ldI .i64 H1 (some ⟨b, 2, none⟩) K = K y := fun K => ldI_of (by simp [pcell, h1'.cell]) rfl K
  have x1 : ∀ (K : Option Addr → Option R), hidx (some ⟨c, 0, none⟩) 2 i 1 K = K (some ⟨c, i.toNat, none⟩) := fun K => by rw [hidx_1 c 2 0 _ hi.1 (by omega)]; simp
  have lp : ∀ (K : Option Addr → Option R), ldP H (some ⟨c, i.toNat, none⟩) K = K p := fun K => ldP_of (by simp only [pcell, h2.cell]; exact hp) K
  unfold L_CblkNobody_p1 L_CblkNobody_p1_b
  simp only [x1, lp, dead_Size d, hfad, pad_some, Nat.zero_add, Nat.add_zero, m0, m1, m2, m3, dead_Neighbors d, dead_Signs d, e1, bne_self_eq_false, cond_false, n1, n2, dead_Value d1, dead_Significant d1, dead_Touched d1, dead_Refined d1]
end
theorem nobody_in (H : Heap) (us : List Value) (h : AllLies H [(.pair (.int .i64) (.pair (.int .i64) (.pair (.int .i64) (.pair (.int .i64) .nil))), true), (.bool, false)] us) : L_CblkNobody_c Bool 1000 us H asB = some true := by
  obtain ⟨cs, _, rfl, hs, hh⟩ := lies_agg h
  obtain ⟨t, _, rfl, hh2⟩ := lies_bool hh
  cases lies_nil hh2
  obtain ⟨x, y, rfl, ⟨a, rfl, ha⟩, x2, y2, rfl, ⟨b, rfl, hb⟩, x3, y3, rfl, ⟨c, rfl, hc⟩, x4, y4, rfl, ⟨d, rfl, hd⟩, hn⟩ := hs
  have hn' : y4 = [] := hn
  subst hn'
  show L_CblkNobody 1000 a b c d t H (fun t H => asB (.bool t) H) = some true
  unfold L_CblkNobody L_CblkNobody_b
  obtain ⟨p1, H1, e1, rfl, g1, o1, n1⟩ := hal_of H [.int .i64 a, .int .i64 b, .int .i64 c, .int .i64 d]
  obtain ⟨p2, H2, e2, rfl, g2, o2, n2⟩ := hal_of H1 [.int .i64 0, .int .i64 0, .slice none 0 0]
  obtain ⟨p3, H3, e3, rfl, g3, o3, n3⟩ := hal_of H2 [.pointer none, .pointer (some ⟨H1.length, 0, none⟩)]
  have s1 : Sees H3 H.length [.int .i64 a, .int .i64 b, .int .i64 c, .int .i64 d] := (g1.sees.old o2 (by omega)).old o3 (by omega)
  have s2 : Sees H3 H1.length [.int .i64 0, .int .i64 0, .slice none 0 0] := g2.sees.old o3 (by omega)
  obtain ⟨H4, e4, o4⟩ := nobody_p1 1000 t (i := 0) (by omega) s1 g3.sees (p := none) rfl (.inl rfl) 2 2 2
  have s1' := s1.old o4 (by omega)
  obtain ⟨H5, e5, o5⟩ := nobody_p1 1000 t (i := 1) (by omega) s1' (g3.sees.old o4 (by omega)) (p := some ⟨H1.length, 0, none⟩) rfl (.inr ⟨_, rfl, s2.old o4 (by omega)⟩) 2 2 2
  simp only [e1, e2, e3]
  have w1 : IntKind.wrap .i64 (0 + 1) = 1 := by decide
  have w2 : IntKind.wrap .i64 (1 + 1) = 2 := by decide
  have z1 : decide ((0 : Int) < 2) = true := by decide
  have z2 : decide ((1 : Int) < 2) = true := by decide
  have z3 : decide ((2 : Int) < 2) = false := by decide
  have key : ∀ (n : Nat) (R : Type) (KE : Heap → Option R) (KR : Bool → Heap → Option R), L_CblkNobody_l0 1000 KE KR (n + 3) t (some ⟨H.length, 0, none⟩) (some ⟨H2.length, 0, none⟩) 2 2 2 0 H3 = KE H5 := fun n R KE KR => by
    simp only [L_CblkNobody_l0, L_CblkNobody_l0_b, z1, cond_true, e4, w1, z2, e5, w2, z3, cond_false]
  exact (key 997 Bool _ _).trans rfl
end Go.Proofs.Ytblpaolcgkjcgaa.Sh
