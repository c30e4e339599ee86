/- Cblk: new blocks, the reference's signs. -/
import Derived.Test.YtblpaolcgkjcgaaCbE
import Derived.Test.YtblpaolcgkjcgaaCbScans
set_option linter.unusedVariables false
set_option linter.unusedSimpArgs false
namespace Go.Proofs.Ytblpaolcgkjcgaa.Sh
open Go.Proofs.Ytblpaolcgkjcgaa.FW
theorem mk_zero : ∀ n, mkCells [.int .i64 0, .bool false, .bool false, .bool false] n = (List.range n).flatMap fun i => ((fun _ => cel0 : Nat → Cel) i).cells := by
  intro n
  induction n with
  | zero => rfl
  | succ n ih =>
    rw [List.range_succ_eq_map, List.flatMap_cons, List.flatMap_map]
    show _ ++ mkCells _ n = _
    rw [ih]; rfl
theorem make_blk (H : Heap) {a b : Nat} (h1 : 1 ≤ a) (h2 : a ≤ 64) (h3 : 1 ≤ b) (h4 : b ≤ 64) : ∃ H1 H2, (∀ (R : Type) (K : Option Addr → Nat → Nat → Heap → Option R), hmk [.int .i64 0, .bool false, .bool false, .bool false] 16 H (((a * b : Nat)) : Int) ((a * b : Nat) : Int) K = K (some ⟨H.length, 0, none⟩) (a * b) (a * b) H1) ∧
    (∀ (R : Type) (K : Option Addr → Heap → Option R), hal H1 [.int .i64 (a : Int), .int .i64 (b : Int), .slice (some ⟨H.length, 0, none⟩) (a * b) (a * b)] K = K (some ⟨H.length + 1, 0, none⟩) H2) ∧ Blk H2 (H.length + 1) H.length a b (fun _ => cel0) ∧ Old H.length H H2 ∧ H2.length = H.length + 2 := by
  have hab : a * b ≤ 4096 := Nat.le_trans (Nat.mul_le_mul h2 h4) (by omega)
  obtain ⟨p, H2, e2, hp, g1, g2, g3⟩ := hal_of (H ++ [some ⟨mkCells [.int .i64 0, .bool false, .bool false, .bool false] (a * b), false, 0⟩]) [.int .i64 (a : Int), .int .i64 (b : Int), .slice (some ⟨H.length, 0, none⟩) (a * b) (a * b)]
  subst hp
  have hl : (H ++ [some (⟨mkCells [.int .i64 0, .bool false, .bool false, .bool false] (a * b), false, 0⟩ : FW.Blk)]).length = H.length + 1 := by simp
  rw [hl] at e2 g1 g2 g3
  have own : Owns H2 H.length ((List.range (a * b)).flatMap fun i => ((fun _ => cel0 : Nat → Cel) i).cells) 0 := by
    unfold Owns
    rw [g2.2 H.length (by omega), ← mk_zero]
    exact app_new H _ []
  refine ⟨_, H2, fun R K => ?_, fun R K => e2 R K, ⟨⟨g1.sees, own.sees, ⟨h1, h2⟩, h3, h4⟩, own, by omega⟩, (Old.app H _).trans (g2.mono (by omega)), by omega⟩
  unfold hmk
  rw [if_pos ⟨by omega, by omega, by omega, by omega⟩]
  rfl
theorem New_eq (H : Heap) {a b : Nat} (h1 : 1 ≤ a) (h2 : a ≤ 64) (h3 : 1 ≤ b) (h4 : b ≤ 64) : ∃ H', (∀ (R : Type) (K : Option Addr → Int → Heap → Option R), cblk_New (a : Int) (b : Int) H K = K (some ⟨H.length + 1, 0, none⟩) 0 H') ∧ Blk H' (H.length + 1) H.length a b (fun _ => cel0) ∧ Old H.length H H' ∧ H'.length = H.length + 2 := by
  obtain ⟨H1, H2, e1, e2, B, o, n⟩ := make_blk H h1 h2 h3 h4
  have hab : a * b ≤ 4096 := Nat.le_trans (Nat.mul_le_mul h2 h4) (by omega)
  have hs : isz (a : Int) (b : Int) = true := by unfold isz; simp; omega
  refine ⟨H2, fun R K => ?_, B, o, n⟩
  unfold cblk_New cblk_New_b
  rw [sized_eq, hs, ← Int.natCast_mul, w64 (by omega) (by omega)]
  rw [Bool.not_true, cond_false, e1, e2]
theorem NewR_eq (H : Heap) {a b : Nat} (h1 : 1 ≤ a) (h2 : a ≤ 64) (h3 : 1 ≤ b) (h4 : b ≤ 64) : ∃ H', (∀ (R : Type) (K : Option Addr → Int → Heap → Option R), R14_New (a : Int) (b : Int) H K = K (some ⟨H.length + 1, 0, none⟩) 0 H') ∧ Blk H' (H.length + 1) H.length a b (fun _ => cel0) ∧ Old H.length H H' ∧ H'.length = H.length + 2 := by
  obtain ⟨H1, H2, e1, e2, B, o, n⟩ := make_blk H h1 h2 h3 h4
  have hab : a * b ≤ 4096 := Nat.le_trans (Nat.mul_le_mul h2 h4) (by omega)
  have hs : isz (a : Int) (b : Int) = true := by unfold isz; simp; omega
  refine ⟨H2, fun R K => ?_, B, o, n⟩
  unfold R14_New R14_New_b
  rw [sizedR_eq, hs, ← Int.natCast_mul, w64 (by omega) (by omega)]
  rw [Bool.not_true, cond_false, e1, e2]
theorem contr_eq {R : Type} {s t : Int} (hs : -1 ≤ s ∧ s ≤ 1) (ht : -1 ≤ t ∧ t ≤ 1) (k : Nat) (K : Int → Option R) : R13_Contribution k s t K = K (jn s t) := by
  have h1 : s = -1 ∨ s = 0 ∨ s = 1 := by omega
  have h2 : t = -1 ∨ t = 0 ∨ t = 1 := by omega
  rcases h1 with rfl | rfl | rfl <;> rcases h2 with rfl | rfl | rfl <;> rfl
theorem SignsR_eq (k : Nat) {H : Heap} {b1 b2 w h : Nat} {g : Nat → Cel} (B : BlkR H b1 b2 w h g) (x y : Int) (c : Bool) : ∃ H', (∀ (R : Type) (K : Int → Int → Heap → Option R), R14_Block_Signs k (some ⟨b1, 0, none⟩) x y c H K = K (sg w h g x y c).1 (sg w h g x y c).2 H') ∧ Old H.length H H' := by
  unfold sg
  cases e : inn w h x y with
  | false =>
    refine ⟨H, fun R K => ?_, .refl _ _⟩
    unfold R14_Block_Signs R14_Block_Signs_b
    rw [in_eq B, e]; rfl
  | true =>
    have hxy := inn_wf B.bw.2 B.bh.2 e
    have wb : ∀ n : Int, -10 ≤ n → n ≤ 100 → IntKind.wrap .i64 n = n := fun n h1 h2 => w64 (by omega) (by omega)
    obtain ⟨H1, e1, o1⟩ := signR_eq B x (y + 1)
    have B1 := B.keep o1
    obtain ⟨H2, e2, o2⟩ := signR_eq B1 (x - 1) y
    have B2 := B1.keep o2
    obtain ⟨H3, e3, o3⟩ := signR_eq B2 (x + 1) y
    have B3 := B2.keep o3
    obtain ⟨H4, e4, o4⟩ := signR_eq B3 x (y - 1)
    have hl1 := o1.1
    have hl2 := o2.1
    have hl3 := o3.1
    have c1 := sgn_11 w h g (x - 1) y
    have c2 := sgn_11 w h g (x + 1) y
    have c3 := sgn_11 w h g x (y - 1)
    have c4 := sgn_11 w h g x (y + 1)
    refine ⟨H4, fun R K => ?_, o1.trans ((o2.mono (by omega)).trans ((o3.mono (by omega)).trans (o4.mono (by omega))))⟩
    unfold R14_Block_Signs R14_Block_Signs_b R14_Block_Signs_p0 R14_Block_Signs_p0_b
    rw [in_eq B, e]
    simp only [Bool.not_true, cond_false, cond_true, wb (x - 1) (by omega) (by omega), wb (x + 1) (by omega) (by omega), wb (y - 1) (by omega) (by omega), wb (y + 1) (by omega) (by omega), e1, e2, e3, e4, contr_eq c1 c2]
    cases c with
    | false => simp only [cond_false, Bool.not_false, Bool.true_or, cond_true, e2, e3, e4, contr_eq c1 c2, contr_eq c3 c4]
    | true =>
      cases hb : (Int.tmod y 4 == 3) with
      | true =>
        have : (Int.tmod y 4 != 3) = false := by simp only [bne, hb]; rfl
        simp only [cond_true, e2, e3, e4, contr_eq c1 c2, contr_eq c3 (show (-1 : Int) ≤ 0 ∧ (0 : Int) ≤ 1 from by omega), this, Bool.not_true, Bool.or_self, cond_false]
      | false =>
        have : (Int.tmod y 4 != 3) = true := by simp only [bne, hb]; rfl
        simp only [cond_true, cond_false, e2, e3, e4, contr_eq c1 c2, contr_eq c3 c4, this, Bool.not_true, Bool.false_or]
end Go.Proofs.Ytblpaolcgkjcgaa.Sh
