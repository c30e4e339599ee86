/- Cblk: what the methods of a block come to. -/
import Derived.Test.YtblpaolcgkjcgaaSh9
import Derived.Test.YtblpaolcgkjcgaaSh8
import Derived.Test.YtblpaolcgkjcgaaSh11
import Derived.Test.YtblpaolcgkjcgaaSh10
import Derived.Test.YtblpaolcgkjcgaaCbA
set_option linter.unusedVariables false
set_option linter.unusedSimpArgs false
namespace Go.Proofs.Ytblpaolcgkjcgaa.Sh
open Go.Proofs.Ytblpaolcgkjcgaa.FW
/-- A coefficient's state. -/
structure Cel where
  v : Int
  s : Bool
  t : Bool
  r : Bool
def cel0 : Cel := ⟨0, false, false, false⟩
def Cel.cells (c : Cel) : List Value := [.int .i64 c.v, .bool c.s, .bool c.t, .bool c.r]
/-- A block as it lies in the heap: its head in b1, its coefficients in b2. -/
structure BlkR (H : Heap) (b1 b2 w h : Nat) (g : Nat → Cel) : Prop where
  hd : Sees H b1 [.int .i64 (w : Int), .int .i64 (h : Int), .slice (some ⟨b2, 0, none⟩) (w * h) (w * h)]
  cs : Sees H b2 ((List.range (w * h)).flatMap fun i => (g i).cells)
  bw : 1 ≤ w ∧ w ≤ 64
  bh : 1 ≤ h ∧ h ≤ 64
theorem flat4_get (g : Nat → Cel) : ∀ (n i j : Nat), i < n → j < 4 → ((List.range n).flatMap fun i => (g i).cells)[4 * i + j]? = (g i).cells[j]? := by
  intro n
  induction n with
  | zero => intro i j h; omega
  | succ n ih =>
    intro i j hi hj
    have hlen : ∀ n, ((List.range n).flatMap fun i => (g i).cells).length = 4 * n := by
      intro n
      induction n with
      | zero => rfl
      | succ n ih => rw [List.range_succ, List.flatMap_append, List.length_append, ih]; simp [Cel.cells]; omega
    rw [List.range_succ, List.flatMap_append, List.getElem?_append, hlen]
    by_cases c : i < n
    · rw [if_pos (by omega)]; exact ih i j c hj
    · have : i = n := by omega
      subst this
      rw [if_neg (by omega)]
      simp [Nat.add_sub_cancel_left]
theorem flat4_len (g : Nat → Cel) : ∀ n, ((List.range n).flatMap fun i => (g i).cells).length = 4 * n := by
  intro n
  induction n with
  | zero => rfl
  | succ n ih => rw [List.range_succ, List.flatMap_append, List.length_append, ih]; simp [Cel.cells]; omega
def inn (w h : Nat) (x y : Int) : Bool := decide (0 ≤ x) && decide (x < w) && decide (0 ≤ y) && decide (y < h)
def ix (w : Nat) (x y : Int) : Nat := y.toNat * w + x.toNat
theorem ix_lt {w h : Nat} {x y : Int} (hi : inn w h x y = true) : ix w x y < w * h := by
  unfold inn at hi
  simp only [Bool.and_eq_true, decide_eq_true_eq] at hi
  unfold ix
  have h1 : y.toNat + 1 ≤ h := by omega
  have := Nat.mul_le_mul_right w h1
  rw [Nat.add_mul, Nat.one_mul, Nat.mul_comm h w] at this
  omega
section
variable {R : Type} {H : Heap} {b1 b2 w h : Nat} {g : Nat → Cel}
theorem BlkR.lds (B : BlkR H b1 b2 w h g) (R : Type) : (∀ K : Int → Option R, ldI .i64 H (some ⟨b1, 0, none⟩) K = K w) ∧ (∀ K : Int → Option R, ldI .i64 H (some ⟨b1, 1, none⟩) K = K h) ∧ (∀ K : Option Addr → Nat → Nat → Option R, ldL H (some ⟨b1, 2, none⟩) K = K (some ⟨b2, 0, none⟩) (w * h) (w * h)) :=
  ⟨fun K => ldI_of (by simp [pcell, B.hd.cell]) rfl K, fun K => ldI_of (by simp [pcell, B.hd.cell]) rfl K, fun K => ldL_of (by simp [pcell, B.hd.cell]) K⟩
theorem BlkR.ldc (B : BlkR H b1 b2 w h g) {i : Nat} (hi : i < w * h) (R : Type) : (∀ K : Int → Option R, ldI .i64 H (some ⟨b2, 4 * i, none⟩) K = K (g i).v) ∧ (∀ K : Bool → Option R, ldB H (some ⟨b2, 4 * i + 1, none⟩) K = K (g i).s) ∧ (∀ K : Bool → Option R, ldB H (some ⟨b2, 4 * i + 2, none⟩) K = K (g i).t) ∧ (∀ K : Bool → Option R, ldB H (some ⟨b2, 4 * i + 3, none⟩) K = K (g i).r) := by
  have hc := fun j (hj : j < 4) => (B.cs.cell (4 * i + j)).trans (flat4_get g (w * h) i j hi hj)
  exact ⟨fun K => ldI_of (by have := hc 0 (by omega); simpa [pcell, Cel.cells] using this) rfl K, fun K => ldB_of (by have := hc 1 (by omega); simpa [pcell, Cel.cells] using this) K, fun K => ldB_of (by have := hc 2 (by omega); simpa [pcell, Cel.cells] using this) K, fun K => ldB_of (by have := hc 3 (by omega); simpa [pcell, Cel.cells] using this) K⟩
theorem wrap_ix {w h : Nat} {x y : Int} (hw : w ≤ 64) (hh : h ≤ 64) (hi : inn w h x y = true) : IntKind.wrap .i64 (IntKind.wrap .i64 (y * (w : Int)) + x) = ((ix w x y : Nat) : Int) := by
  have hlt := ix_lt hi
  unfold inn at hi
  simp only [Bool.and_eq_true, decide_eq_true_eq] at hi
  obtain ⟨a, rfl⟩ : ∃ a : Nat, x = a := ⟨x.toNat, by omega⟩
  obtain ⟨b, rfl⟩ : ∃ b : Nat, y = b := ⟨y.toNat, by omega⟩
  have h1 : b * w ≤ 64 * 64 := Nat.mul_le_mul (by omega) hw
  rw [← Int.natCast_mul, w64 (n := ((b * w : Nat) : Int)) (by omega) (by omega), w64 (by omega) (by omega)]
  unfold ix
  simp
theorem at_eq (k : Nat) (B : BlkR H b1 b2 w h g) (x y : Int) (K : Option Addr → Option R) : cblk_Block_at k (some ⟨b1, 0, none⟩) x y H K = K (bif inn w h x y then some ⟨b2, 4 * ix w x y, none⟩ else none) := by
  obtain ⟨l1, l2, l3⟩ := B.lds R
  unfold cblk_Block_at cblk_Block_at_b cblk_Block_at_p0 cblk_Block_at_p0_b
  simp only [Option.isNone_some, cond_false, hnil, hfad, Nat.zero_add, l1, l2, l3]
  by_cases c1 : x < 0
  · have e : inn w h x y = false := by unfold inn; simp; omega
    simp [c1, e]
  · by_cases c2 : x ≥ w
    · have e : inn w h x y = false := by unfold inn; simp; omega
      simp [c1, c2, e]
    · by_cases c3 : y < 0
      · have e : inn w h x y = false := by unfold inn; simp; omega
        simp [c1, c2, c3, e]
      · by_cases c4 : y ≥ h
        · have e : inn w h x y = false := by unfold inn; simp; omega
          simp [c1, c2, c3, c4, e]
        · have e : inn w h x y = true := by unfold inn; simp; omega
          have d1 : decide (x < 0) = false := by simpa using c1
          have d2 : decide (x ≥ (w : Int)) = false := by simpa using c2
          have d3 : decide (y < 0) = false := by simpa using c3
          have d4 : decide (y ≥ (h : Int)) = false := by simpa using c4
          have hlt := ix_lt e
          rw [d1, d2, d3, d4, e, wrap_ix B.bw.2 B.bh.2 e]
          simp only [cond_false, cond_true, hidx]
          rw [if_pos ⟨by omega, by omega⟩]
          simp [Nat.mul_comm]
/-- The coefficient at a place; outside, nothing. -/
def gc (w h : Nat) (g : Nat → Cel) (x y : Int) : Cel := bif inn w h x y then g (ix w x y) else cel0
theorem Value_eq (k : Nat) (B : BlkR H b1 b2 w h g) (x y : Int) (K : Int → Option R) : cblk_Block_Value k (some ⟨b1, 0, none⟩) x y H K = K (gc w h g x y).v := by
  unfold cblk_Block_Value cblk_Block_Value_b gc
  rw [at_eq k B]
  cases e : inn w h x y with
  | false => rfl
  | true =>
    obtain ⟨m1, m2, m3, m4⟩ := B.ldc (ix_lt e) R
    simp only [cond_true, Option.isSome_some, hnil, hfad, Nat.add_zero, m1]
theorem Significant_eq (k : Nat) (B : BlkR H b1 b2 w h g) (x y : Int) (K : Bool → Option R) : cblk_Block_Significant k (some ⟨b1, 0, none⟩) x y H K = K (gc w h g x y).s := by
  unfold cblk_Block_Significant cblk_Block_Significant_b gc
  rw [at_eq k B]
  cases e : inn w h x y with
  | false => rfl
  | true =>
    obtain ⟨m1, m2, m3, m4⟩ := B.ldc (ix_lt e) R
    simp only [cond_true, Option.isSome_some, hnil, hfad, m2]
theorem Touched_eq (k : Nat) (B : BlkR H b1 b2 w h g) (x y : Int) (K : Bool → Option R) : cblk_Block_Touched k (some ⟨b1, 0, none⟩) x y H K = K (gc w h g x y).t := by
  unfold cblk_Block_Touched cblk_Block_Touched_b gc
  rw [at_eq k B]
  cases e : inn w h x y with
  | false => rfl
  | true =>
    obtain ⟨m1, m2, m3, m4⟩ := B.ldc (ix_lt e) R
    simp only [cond_true, Option.isSome_some, hnil, hfad, m3]
theorem Refined_eq (k : Nat) (B : BlkR H b1 b2 w h g) (x y : Int) (K : Bool → Option R) : cblk_Block_Refined k (some ⟨b1, 0, none⟩) x y H K = K (gc w h g x y).r := by
  unfold cblk_Block_Refined cblk_Block_Refined_b gc
  rw [at_eq k B]
  cases e : inn w h x y with
  | false => rfl
  | true =>
    obtain ⟨m1, m2, m3, m4⟩ := B.ldc (ix_lt e) R
    simp only [cond_true, Option.isSome_some, hnil, hfad, m4]
theorem Size_eq (B : BlkR H b1 b2 w h g) (K : Int → Int → Option R) : cblk_Block_Size (some ⟨b1, 0, none⟩) H K = K w h := by
  obtain ⟨l1, l2, l3⟩ := B.lds R
  unfold cblk_Block_Size cblk_Block_Size_b
  simp only [Option.isNone_some, cond_false, hnil, hfad, Nat.zero_add, l1, l2]
/-- Whether a coefficient counts, and its sign. -/
def cnt (w h : Nat) (g : Nat → Cel) (x y : Int) : Int := bif (gc w h g x y).s then 1 else 0
def sgn (w h : Nat) (g : Nat → Cel) (x y : Int) : Int := bif (gc w h g x y).s then (bif decide ((gc w h g x y).v < 0) then -1 else 1) else 0
theorem cnt_01 (w h : Nat) (g : Nat → Cel) (x y : Int) : 0 ≤ cnt w h g x y ∧ cnt w h g x y ≤ 1 := by
  unfold cnt; cases (gc w h g x y).s <;> simp
theorem sgn_11 (w h : Nat) (g : Nat → Cel) (x y : Int) : -1 ≤ sgn w h g x y ∧ sgn w h g x y ≤ 1 := by
  unfold sgn
  cases (gc w h g x y).s with
  | false => simp
  | true => cases decide ((gc w h g x y).v < 0) <;> simp
theorem one_eq (k : Nat) (B : BlkR H b1 b2 w h g) (x y : Int) (K : Int → Option R) : cblk_Block_one k (some ⟨b1, 0, none⟩) x y H K = K (cnt w h g x y) := by
  unfold cblk_Block_one cblk_Block_one_b cnt
  rw [Significant_eq k B]
  cases (gc w h g x y).s <;> rfl
theorem sign_eq (k : Nat) (B : BlkR H b1 b2 w h g) (x y : Int) (K : Int → Option R) : cblk_Block_sign k (some ⟨b1, 0, none⟩) x y H K = K (sgn w h g x y) := by
  unfold cblk_Block_sign cblk_Block_sign_b cblk_Block_sign_p0 cblk_Block_sign_p0_b sgn gc
  rw [at_eq k B]
  cases e : inn w h x y with
  | false => rfl
  | true =>
    obtain ⟨m1, m2, m3, m4⟩ := B.ldc (ix_lt e) R
    simp only [cond_true, Option.isNone_some, cond_false, hnil, hfad, Nat.add_zero, m1, m2]
    cases (g (ix w x y)).s with
    | false => rfl
    | true =>
      simp only [Bool.not_true, cond_false, cond_true]
      cases decide ((g (ix w x y)).v < 0) <;> rfl
/-- The numbers of neighbors. -/
def nb (w h : Nat) (g : Nat → Cel) (x y : Int) (c : Bool) : Int × Int × Int :=
  bif inn w h x y then
    (cnt w h g (x - 1) y + cnt w h g (x + 1) y,
     cnt w h g x (y - 1) + (bif !c || Int.tmod y 4 != 3 then cnt w h g x (y + 1) else 0),
     cnt w h g (x - 1) (y - 1) + cnt w h g (x + 1) (y - 1) + (bif !c || Int.tmod y 4 != 3 then cnt w h g (x - 1) (y + 1) + cnt w h g (x + 1) (y + 1) else 0))
  else (0, 0, 0)
theorem inn_wf {w h : Nat} {x y : Int} (hw : w ≤ 64) (hh : h ≤ 64) (hi : inn w h x y = true) : 0 ≤ x ∧ x < 64 ∧ 0 ≤ y ∧ y < 64 := by
  unfold inn at hi
  simp only [Bool.and_eq_true, decide_eq_true_eq] at hi
  omega
theorem Neighbors_eq (k : Nat) (B : BlkR H b1 b2 w h g) (x y : Int) (c : Bool) (K : Int → Int → Int → Option R) : cblk_Block_Neighbors k (some ⟨b1, 0, none⟩) x y c H K = K (nb w h g x y c).1 (nb w h g x y c).2.1 (nb w h g x y c).2.2 := by
  unfold cblk_Block_Neighbors cblk_Block_Neighbors_b cblk_Block_Neighbors_p0 cblk_Block_Neighbors_p0_b nb
  rw [at_eq k B]
  cases e : inn w h x y with
  | false => rfl
  | true =>
    have hxy := inn_wf B.bw.2 B.bh.2 e
    have wb : ∀ n : Int, -10 ≤ n → n ≤ 100 → IntKind.wrap .i64 n = n := fun n h1 h2 => w64 (by omega) (by omega)
    simp only [cond_true, Option.isNone_some, cond_false, one_eq k B, wb (x - 1) (by omega) (by omega), wb (x + 1) (by omega) (by omega), wb (y - 1) (by omega) (by omega), wb (y + 1) (by omega) (by omega)]
    have c1 := cnt_01 w h g (x - 1) y
    have c2 := cnt_01 w h g (x + 1) y
    have c3 := cnt_01 w h g x (y - 1)
    have c4 := cnt_01 w h g (x - 1) (y - 1)
    have c5 := cnt_01 w h g (x + 1) (y - 1)
    have c6 := cnt_01 w h g x (y + 1)
    have c7 := cnt_01 w h g (x - 1) (y + 1)
    have c8 := cnt_01 w h g (x + 1) (y + 1)
    rw [wb (cnt w h g (x - 1) y + cnt w h g (x + 1) y) (by omega) (by omega), wb (cnt w h g (x - 1) (y - 1) + cnt w h g (x + 1) (y - 1)) (by omega) (by omega), wb (cnt w h g (x - 1) (y + 1) + cnt w h g (x + 1) (y + 1)) (by omega) (by omega), wb (cnt w h g x (y - 1) + cnt w h g x (y + 1)) (by omega) (by omega), wb (cnt w h g (x - 1) (y - 1) + cnt w h g (x + 1) (y - 1) + (cnt w h g (x - 1) (y + 1) + cnt w h g (x + 1) (y + 1))) (by omega) (by omega)]
    cases c with
    | false => rfl
    | true =>
      simp only [Bool.not_true, cond_false, Bool.false_or]
      cases (Int.tmod y 4 != 3) <;> simp
/-- The joint signs. -/
def jn (s t : Int) : Int := imn (imx (s + t) (-1)) 1
def sg (w h : Nat) (g : Nat → Cel) (x y : Int) (c : Bool) : Int × Int :=
  bif inn w h x y then (jn (sgn w h g (x - 1) y) (sgn w h g (x + 1) y), jn (sgn w h g x (y - 1)) (bif !c || Int.tmod y 4 != 3 then sgn w h g x (y + 1) else 0)) else (0, 0)
theorem joint_eq {s t : Int} (hs : -1 ≤ s ∧ s ≤ 1) (ht : -1 ≤ t ∧ t ≤ 1) (K : Int → Option R) : cblk_joint s t K = K (jn s t) := by
  unfold cblk_joint cblk_joint_b jn
  rw [w64 (by omega) (by omega)]
theorem Signs_eq (k : Nat) (B : BlkR H b1 b2 w h g) (x y : Int) (c : Bool) (K : Int → Int → Option R) : cblk_Block_Signs k (some ⟨b1, 0, none⟩) x y c H K = K (sg w h g x y c).1 (sg w h g x y c).2 := by
  unfold cblk_Block_Signs cblk_Block_Signs_b cblk_Block_Signs_p0 cblk_Block_Signs_p0_b cblk_Block_Signs_p1 cblk_Block_Signs_p1_b sg
  rw [at_eq k B]
  cases e : inn w h x y with
  | false => rfl
  | true =>
    have hxy := inn_wf B.bw.2 B.bh.2 e
    have wb : ∀ n : Int, -10 ≤ n → n ≤ 100 → IntKind.wrap .i64 n = n := fun n h1 h2 => w64 (by omega) (by omega)
    simp only [cond_true, Option.isNone_some, cond_false, sign_eq k B, wb (x - 1) (by omega) (by omega), wb (x + 1) (by omega) (by omega), wb (y - 1) (by omega) (by omega), wb (y + 1) (by omega) (by omega)]
    have c1 := sgn_11 w h g (x - 1) y
    have c2 := sgn_11 w h g (x + 1) y
    have c3 := sgn_11 w h g x (y - 1)
    have c4 := sgn_11 w h g x (y + 1)
    cases c with
    | false => simp only [Bool.not_false, cond_true, Bool.true_or, joint_eq c1 c2, joint_eq c3 c4]
    | true =>
      simp only [Bool.not_true, cond_false, Bool.false_or]
      cases (Int.tmod y 4 != 3)
      · simp only [cond_false, joint_eq c1 c2, joint_eq c3 (show (-1 : Int) ≤ 0 ∧ (0 : Int) ≤ 1 from by omega)]
      · simp only [cond_true, joint_eq c1 c2, joint_eq c3 c4]
end
end Go.Proofs.Ytblpaolcgkjcgaa.Sh
