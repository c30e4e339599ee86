/- Color: planes compared. -/
import Derived.Test.YtoeoolnkndkefaaClG
set_option linter.unusedVariables false
set_option linter.unusedSimpArgs false
namespace Go.Proofs.Ytoeoolnkndkefaa.Sh
open Go.Proofs.Ytoeoolnkndkefaa.FW
theorem sameInts_loop (k : Nat) {H : Heap} {q1 q2 : Option Addr} (c1 c2 : Nat) {xs : List Int} (h1 : Shows H q1 (ints xs)) (h2 : Shows H q2 (ints xs)) (hl : xs.length ≤ 2000000) (R : Type) (KE : Unit → Option R) (KR : Bool → Option R) : ∀ (m n i : Nat), m < n → xs.length = i + m → R02_SameInts_l0 k KE KR n q1 xs.length c1 q2 xs.length c2 (i : Int) H = KE () := by
  intro m
  induction m with
  | zero =>
    intro n i hn hi
    obtain ⟨n, rfl⟩ : ∃ n', n = n' + 1 := ⟨n - 1, by omega⟩
    have ed : decide ((i : Int) < ((xs.length : Nat) : Int)) = false := decide_eq_false (by omega)
    simp only [R02_SameInts_l0, R02_SameInts_l0_b, ed, cond_false]
  | succ m ih =>
    intro n i hn hi
    obtain ⟨n, rfl⟩ : ∃ n', n = n' + 1 := ⟨n - 1, by omega⟩
    have ed : decide ((i : Int) < ((xs.length : Nat) : Int)) = true := decide_eq_true (by omega)
    have ew : IntKind.wrap .i64 ((i : Int) + 1) = ((i + 1 : Nat) : Int) := by rw [w64 (by omega) (by omega)]; rfl
    obtain ⟨p1, e1, l1⟩ := int_at h1 (show i < xs.length by omega)
    obtain ⟨p2, e2, l2⟩ := int_at h2 (show i < xs.length by omega)
    simp only [R02_SameInts_l0, R02_SameInts_l0_b, ed, cond_true, e1, e2, l1, l2, bne_self_eq_false, cond_false, ew]
    exact ih n (i + 1) (by omega) (by omega)
theorem sameInts_eq {k : Nat} (hk : 500 < k) {H : Heap} {q1 q2 : Option Addr} (c1 c2 : Nat) {xs : List Int} (h1 : Shows H q1 (ints xs)) (h2 : Shows H q2 (ints xs)) (hl : xs.length ≤ 400) (R : Type) (K : Bool → Option R) : R02_SameInts k q1 xs.length c1 q2 xs.length c2 H K = K true := by
  unfold R02_SameInts R02_SameInts_b
  simp only [bne_self_eq_false, cond_false]
  have := sameInts_loop k c1 c2 h1 h2 (by omega) R (fun _ => K true) (fun t => K t) xs.length k 0 (by omega) (by omega)
  simp only [Int.natCast_zero] at this
  exact this
theorem same_eq {k : Nat} (hk : 500 < k) {H : Heap} {q1 q2 : Option Addr} (c1 c2 : Nat) {xs : List Int} (h1 : Shows H q1 (ints xs)) (h2 : Shows H q2 (ints xs)) (hl : xs.length ≤ 400) (x0 y0 x1 y1 : Int) : ∃ J, ∀ (R : Type) (K : Bool → Heap → Option R), R02_Same k x0 y0 x1 y1 q1 xs.length c1 x0 y0 x1 y1 q2 xs.length c2 H K = K true (H ++ J) := by
  have hb : ∀ (J : Heap) (R : Type) (K : Bool → Option R), R02_SameInts k q1 xs.length c1 q2 xs.length c2 (H ++ J) K = K true := fun J R K => sameInts_eq hk c1 c2 (h1.keep (Old.app _ _)) (h2.keep (Old.app _ _)) hl R K
  refine ⟨?J1, fun R K => ?M1⟩
  case M1 =>
    unfold R02_Same R02_Same_b
    simp (disch := (first | assumption | omega | exact Nat.le_of_ble_eq_true rfl | (simp only [List.length_append, List.length_cons, List.length_nil]; omega))) only [beq_self_eq_true, Bool.and_self, hal_x, hmk_x, hcell_new, hcell_old, hidx_x, hfad_x, hnil_x, ldI_x, ldB_x, ldP_x, ldL_x, pad_some, get0, gets, ik64, ik8, ik32, iku64, cond_true, cond_false, hst_new, hst_old, splice_cc, splice_nn, one_n, one_i, one_b, one_p, one_s, one_t, Int.toNat_zero, Int.toNat_one, tn2, tn3, Nat.mul_one, Nat.zero_add, Nat.zero_mul, Nat.add_zero]
    simp only [List.append_assoc]
    rw [hb]
end Go.Proofs.Ytoeoolnkndkefaa.Sh
