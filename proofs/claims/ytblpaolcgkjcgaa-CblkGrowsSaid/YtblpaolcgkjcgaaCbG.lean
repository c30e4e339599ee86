/- Cblk: the block and the reference's, side by side. -/
import Derived.Test.YtblpaolcgkjcgaaCbF
set_option linter.unusedVariables false
set_option linter.unusedSimpArgs false
namespace Go.Proofs.Ytblpaolcgkjcgaa.Sh
open Go.Proofs.Ytblpaolcgkjcgaa.FW
structure Two (N : Nat) (H : Heap) (a1 a2 b1 b2 w h : Nat) (g : Nat → Cel) : Prop where
  a : Blk H a1 a2 w h g
  b : Blk H b1 b2 w h g
  d1 : a1 ≠ b2
  d2 : a2 ≠ b2
  d3 : b1 ≠ a2
  na : N ≤ a2
  nb : N ≤ b2
theorem Two.keep {N : Nat} {H H' : Heap} {a1 a2 b1 b2 w h : Nat} {g : Nat → Cel} (T : Two N H a1 a2 b1 b2 w h g) (o : Old H.length H H') : Two N H' a1 a2 b1 b2 w h g := ⟨T.a.keep o, T.b.keep o, T.d1, T.d2, T.d3, T.na, T.nb⟩
theorem Chg.old {b N : Nat} {H H' : Heap} (c : Chg b H H') (hN : N ≤ b) (hl : N ≤ H.length) : Old N H H' := ⟨c.1, fun i hi => c.2 i (by omega) (by omega)⟩
/-- A call's four numbers. -/
abbrev Op4 := Int × Int × Int × Int
def opc (o : Op4) : List Value := [.int .i64 o.1, .int .i64 o.2.1, .int .i64 o.2.2.1, .int .i64 o.2.2.2]
def plays (w h : Nat) (g : Nat → Cel) (ops : List Op4) : Nat → Cel := ops.foldl (fun g o => (opr w h g o.1 o.2.1 o.2.2.1 o.2.2.2).2) g
theorem flat_ops_get : ∀ (ops : List Op4) (i j : Nat) (o : Op4), ops[i]? = some o → j < 4 → (ops.flatMap opc)[i * 4 + j]? = (opc o)[j]? := by
  intro ops
  induction ops with
  | nil => intro i j o h; simp at h
  | cons x ops ih =>
    intro i j o h hj
    rw [List.flatMap_cons, List.getElem?_append]
    cases i with
    | zero => simp at h; subst h; rw [if_pos (by simp [opc]; omega)]; simp
    | succ i =>
      simp at h
      rw [if_neg (by simp [opc]; omega)]
      have := ih i j o h hj
      rw [← this]
      congr 1
      simp [opc]; omega
theorem flat_ops_len (ops : List Op4) : (ops.flatMap opc).length = ops.length * 4 := by
  induction ops with
  | nil => rfl
  | cons x ops ih => rw [List.flatMap_cons, List.length_append, ih]; simp [opc]; omega
theorem op_lds {H : Heap} {q : Option Addr} {ops : List Op4} (h : Shows H q (ops.flatMap opc)) {i : Nat} {o : Op4} (ho : ops[i]? = some o) : ∃ p, (∀ (R : Type) (K : Option Addr → Option R), hidx q ops.length (i : Int) 4 K = K p) ∧ ∀ (R : Type) (K : Int → Option R), ldI .i64 H (pad p 0) K = K o.1 ∧ ldI .i64 H (pad p 1) K = K o.2.1 ∧ ldI .i64 H (pad p 2) K = K o.2.2.1 ∧ ldI .i64 H (pad p 3) K = K o.2.2.2 := by
  have hi : i < ops.length := (List.getElem?_eq_some_iff.1 ho).1
  obtain ⟨p, e, m, _⟩ := h.idx (l := ops.length) (size := 4) (by rw [flat_ops_len]; exact Nat.le_refl _) (i := i) (by omega) (by omega) (by omega)
  have hc := fun j (hj : j < 4) v (hv : (opc o)[j]? = some v) => m j v (by rw [Int.toNat_natCast, flat_ops_get ops i j o ho hj]; exact hv) hj
  exact ⟨p, e, fun R K => ⟨ldI_of (hc 0 (by omega) _ rfl) rfl K, ldI_of (hc 1 (by omega) _ rfl) rfl K, ldI_of (hc 2 (by omega) _ rfl) rfl K, ldI_of (hc 3 (by omega) _ rfl) rfl K⟩⟩
theorem played_loop (k : Nat) {N : Nat} {q : Option Addr} {ops : List Op4} (c : Nat) (hq : ops.flatMap opc = [] ∨ Below N q) (hlen : ops.length < 1000000) {a1 a2 b1 b2 w h : Nat} : ∀ (m n i : Nat), m < n → ops.length = i + m → ∀ (H : Heap) (g : Nat → Cel), Two N H a1 a2 b1 b2 w h g → Shows H q (ops.flatMap opc) → N ≤ H.length →
    ∃ H', (∀ (R : Type) (KE : Option Addr → Option Addr → Heap → Option R), L_played_l0 k KE n q ops.length c (some ⟨a1, 0, none⟩) (some ⟨b1, 0, none⟩) (i : Int) H = KE (some ⟨a1, 0, none⟩) (some ⟨b1, 0, none⟩) H') ∧ Two N H' a1 a2 b1 b2 w h (plays w h g (ops.drop i)) ∧ Old N H H' := by
  intro m
  induction m with
  | zero =>
    intro n i hn hi H g T hS hN
    obtain ⟨n, rfl⟩ : ∃ n', n = n' + 1 := ⟨n - 1, by omega⟩
    refine ⟨H, fun R KE => ?_, by rw [List.drop_of_length_le (by omega)]; exact T, .refl _ _⟩
    show L_played_l0_b _ _ _ _ _ _ _ _ _ _ _ _ = _
    unfold L_played_l0_b
    have ed : decide ((i : Int) < ((ops.length : Nat) : Int)) = false := by simp; omega
    rw [ed, cond_false]
  | succ m ih =>
    intro n i hn hi H g T hS hN
    obtain ⟨n, rfl⟩ : ∃ n', n = n' + 1 := ⟨n - 1, by omega⟩
    have ho : ops[i]? = some ops[i] := List.getElem?_eq_getElem (by omega)
    obtain ⟨p, e1, l1⟩ := op_lds hS ho
    obtain ⟨H1, e2, A1, c1⟩ := do_eq k T.a ops[i].1 ops[i].2.1 ops[i].2.2.1 ops[i].2.2.2
    have B1 := T.b.other c1 T.d3 (Ne.symm T.d2)
    have o1 := c1.old T.na hN
    have hS1 := hS.old o1 hq
    obtain ⟨p', e1', l1'⟩ := op_lds hS1 ho
    obtain ⟨H2, e3, B2, c2⟩ := want_eq k B1 ops[i].1 ops[i].2.1 ops[i].2.2.1 ops[i].2.2.2
    have A2 := A1.other c2 T.d1 T.d2
    have o2 := c2.old T.nb (Nat.le_trans hN o1.1)
    obtain ⟨H', i1, i2, i3⟩ := ih n (i + 1) (by omega) (by omega) H2 _ ⟨A2, B2, T.d1, T.d2, T.d3, T.na, T.nb⟩ (hS1.old o2 hq) (Nat.le_trans hN (Nat.le_trans o1.1 o2.1))
    refine ⟨H', fun R KE => ?_, ?_, o1.trans (o2.trans i3)⟩
    · refine Eq.trans ?_ (i1 R KE)
      show L_played_l0_b _ _ _ _ _ _ _ _ _ _ _ _ = _
      unfold L_played_l0_b
      have ed : decide ((i : Int) < ((ops.length : Nat) : Int)) = true := by simp; omega
      rw [ed, cond_true, e1]
      simp only [l1, e2, e1', l1', e3]
      rw [w64 (by omega) (by omega)]
      rfl
    · rw [List.drop_eq_getElem_cons (by omega)]
      exact i2
end Go.Proofs.Ytblpaolcgkjcgaa.Sh
