/- Cblk: new blocks, the reference's signs. -/
import Derived.Test.YtblpaolcgkjcgaaCbE
import Derived.Test.YtblpaolcgkjcgaaCbScans
set_option linter.unusedVariables false
set_option linter.unusedSimpArgs false
namespace Go.Proofs.Ytblpaolcgkjcgaa.Sh
open Go.Proofs.Ytblpaolcgkjcgaa.FW
theorem mk_zero : ∀ n, mkCells [.int .i64 0, .bool false, .bool false, .bool false] n = (List.range n).flatMap fun i => ((fun _ => cel0 : Nat → Cel) i).cells := by
  intro n
  induction n with
  | zero => rfl
  | succ n ih =>
    rw [List.range_succ_eq_map, List.flatMap_cons, List.flatMap_map]
    show _ ++ mkCells _ n = _
    rw [ih]; rfl
theorem make_blk (H : Heap) {a b : Nat} (h1 : 1 ≤ a) (h2 : a ≤ 64) (h3 : 1 ≤ b) (h4 : b ≤ 64) : ∃ H1 H2, (∀ (R : Type) (K : Option Addr → Nat → Nat → Heap → Option R), hmk [.int .i64 0, .bool false, .bool false, .bool false] 16 H (((a * b : Nat)) : Int) ((a * b : Nat) : Int) K = K (some ⟨H.length, 0, none⟩) (a * b) (a * b) H1) ∧
    (∀ (R : Type) (K : Option Addr → Heap → Option R), hal H1 [.int .i64 (a : Int), .int .i64 (b : Int), .slice (some ⟨H.length, 0, none⟩) (a * b) (a * b)] K = K (some ⟨H.length + 1, 0, none⟩) H2) ∧ Blk H2 (H.length + 1) H.length a b (fun _ => cel0) ∧ Old H.length H H2 ∧ H2.length = H.length + 2 := by
  have hab : a * b ≤ 4096 := Nat.le_trans (Nat.mul_le_mul h2 h4) (by omega)
  obtain ⟨p, H2, e2, hp, g1, g2, g3⟩ := hal_of (H ++ [some ⟨mkCells [.int .i64 0, .bool false, .bool false, .bool false] (a * b), false, 0⟩]) [.int .i64 (a : Int), .int .i64 (b : Int), .slice (some ⟨H.length, 0, none⟩) (a * b) (a * b)]
  subst hp
  have hl : (H ++ [some (⟨mkCells [.int .i64 0, .bool false, .bool false, .bool false] (a * b), false, 0⟩ : FW.Blk)]).length = H.length + 1 := by simp
  rw [hl] at e2 g1 g2 g3
  have own : Owns H2 H.length ((List.range (a * b)).flatMap fun i => ((fun _ => cel0 : Nat → Cel) i).cells) 0 := by
    unfold Owns
    rw [g2.2 H.length (by omega), ← mk_zero]
    exact app_new H _ []
  refine ⟨_, H2, fun R K => ?_, fun R K => e2 R K, ⟨⟨g1.sees, own.sees, ⟨h1, h2⟩, h3, h4⟩, own, by omega⟩, (Old.app H _).trans (g2.mono (by omega)), by omega⟩
  unfold hmk
  rw [if_pos ⟨by omega, by omega, by omega, by omega⟩]
  rfl
theorem New_eq (H : Heap) {a b : Nat} (h1 : 1 ≤ a) (h2 : a ≤ 64) (h3 : 1 ≤ b) (h4 : b ≤ 64) : ∃ H', (∀ (R : Type) (K : Option Addr → Int → Heap → Option R), cblk_New (a : Int) (b : Int) H K = K (some ⟨H.length + 1, 0, none⟩) 0 H') ∧ Blk H' (H.length + 1) H.length a b (fun _ => cel0) ∧ Old H.length H H' ∧ H'.length = H.length + 2 := by
  obtain ⟨H1, H2, e1, e2, B, o, n⟩ := make_blk H h1 h2 h3 h4
  have hab : a * b ≤ 4096 := Nat.le_trans (Nat.mul_le_mul h2 h4) (by omega)
  have hs : isz (a : Int) (b : Int) = true := by unfold isz; simp; omega
  refine ⟨H2, fun R K => ?_, B, o, n⟩
  unfold cblk_New cblk_New_b
  rw [sized_eq, hs, ← Int.natCast_mul, w64 (by omega) (by omega)]
  rw [Bool.not_true, cond_false, e1, e2]
theorem NewR_eq (H : Heap) {a b : Nat} (h1 : 1 ≤ a) (h2 : a ≤ 64) (h3 : 1 ≤ b) (h4 : b ≤ 64) : ∃ H', (∀ (R : Type) (K : Option Addr → Int → Heap → Option R), R14_New (a : Int) (b : Int) H K = K (some ⟨H.length + 1, 0, none⟩) 0 H') ∧ Blk H' (H.length + 1) H.length a b (fun _ => cel0) ∧ Old H.length H H' ∧ H'.length = H.length + 2 := by
  obtain ⟨H1, H2, e1, e2, B, o, n⟩ := make_blk H h1 h2 h3 h4
  have hab : a * b ≤ 4096 := Nat.le_trans (Nat.mul_le_mul h2 h4) (by omega)
  have hs : isz (a : Int) (b : Int) = true := by unfold isz; simp; omega
  refine ⟨H2, fun R K => ?_, B, o, n⟩
  unfold R14_New R14_New_b
  rw [sizedR_eq, hs, ← Int.natCast_mul, w64 (by omega) (by omega)]
  rw [Bool.not_true, cond_false, e1, e2]
end Go.Proofs.Ytblpaolcgkjcgaa.Sh
