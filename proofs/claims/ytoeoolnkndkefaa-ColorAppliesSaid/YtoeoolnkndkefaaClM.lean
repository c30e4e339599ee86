/- Color: the first three planes of a list, changed sample by sample. -/
import Derived.Test.YtoeoolnkndkefaaClK
set_option linter.unusedVariables false
set_option linter.unusedSimpArgs false
namespace Go.Proofs.Ytoeoolnkndkefaa.Sh
open Go.Proofs.Ytoeoolnkndkefaa.FW
abbrev PL := Int × Int × Int × Int × List Int
abbrev pr0 (p : Int × Int × Int) : Int := p.1
abbrev pr1 (p : Int × Int × Int) : Int := p.2.1
abbrev pr2 (p : Int × Int × Int) : Int := p.2.2
def mx (f : Int → Int → Int → Int × Int × Int) (X Y Z : List Int) (pr : Int × Int × Int → Int) (i t : Nat) : Value := .int .i64 (if t < i then pr (f (X.getD t 0) (Y.getD t 0) (Z.getD t 0)) else pr (X.getD t 0, Y.getD t 0, Z.getD t 0))
theorem mx_at (f : Int → Int → Int → Int × Int × Int) (X Y Z : List Int) (pr : Int × Int × Int → Int) (i : Nat) : mx f X Y Z pr i i = .int .i64 (pr (X.getD i 0, Y.getD i 0, Z.getD i 0)) := by unfold mx; rw [if_neg (by omega)]
theorem mx_next (f : Int → Int → Int → Int × Int × Int) (X Y Z : List Int) (pr : Int × Int × Int → Int) (i : Nat) (j : Nat) : (if j = i then Value.int .i64 (pr (f (X.getD i 0) (Y.getD i 0) (Z.getD i 0))) else mx f X Y Z pr i j) = mx f X Y Z pr (i + 1) j := by
  unfold mx
  by_cases c : j = i
  · subst c; rw [if_pos rfl, if_pos (by omega)]
  · rw [if_neg c]
    by_cases c2 : j < i
    · rw [if_pos c2, if_pos (by omega)]
    · rw [if_neg c2, if_neg (by omega)]
def tr3 (f : Int → Int → Int → Int × Int × Int) (X Y Z : List Int) (pr : Int × Int × Int → Int) : List Int := (List.range X.length).map fun t => pr (f (X.getD t 0) (Y.getD t 0) (Z.getD t 0))
theorem tr3_len (f : Int → Int → Int → Int × Int × Int) (X Y Z : List Int) (pr : Int × Int × Int → Int) : (tr3 f X Y Z pr).length = X.length := by simp [tr3]
theorem mx_all (f : Int → Int → Int → Int × Int × Int) (X Y Z : List Int) (pr : Int × Int × Int → Int) : vcells X.length (mx f X Y Z pr X.length) = ints (tr3 f X Y Z pr) := by
  unfold vcells ints tr3
  rw [List.map_map]
  refine List.map_congr_left fun i hi => ?_
  rw [List.mem_range] at hi
  simp [mx, hi]
theorem mx_none (f : Int → Int → Int → Int × Int × Int) (X Y Z W : List Int) (pr : Int × Int × Int → Int) (h : ∀ t, pr (X.getD t 0, Y.getD t 0, Z.getD t 0) = W.getD t 0) : vcells W.length (mx f X Y Z pr 0) = ints W := by
  apply List.ext_getElem?
  intro i
  by_cases hi : i < W.length
  · rw [vcells_get _ _ hi]
    have hh := h i
    unfold mx
    rw [if_neg (by omega), hh]
    simp only [ints, List.getElem?_map, List.getElem?_eq_getElem hi, Option.map_some, List.getD_eq_getElem?_getD, Option.getD_some]
  · rw [List.getElem?_eq_none (by rw [vcells_len]; omega), List.getElem?_eq_none (by rw [ints_len]; omega)]
def trq (f : Int → Int → Int → Int × Int × Int) : List PL → List PL
  | (a0, a1, a2, a3, X) :: (b0, b1, b2, b3, Y) :: (c0, c1, c2, c3, Z) :: r => (a0, a1, a2, a3, tr3 f X Y Z pr0) :: (b0, b1, b2, b3, tr3 f X Y Z pr1) :: (c0, c1, c2, c3, tr3 f X Y Z pr2) :: r
  | l => l
def trp (f : Int → Int → Int → Int × Int × Int) (t : Int) (l : List PL) : List PL := bif t == 0 then l else trq f l
/-- Three rows within a list of planes. -/
structure Tri3 (H : Heap) (bl : Nat) (l : List Value) (n b0 b1 b2 c0 c1 c2 s0 s1 s2 : Nat) (g0 g1 g2 : Nat → Value) : Prop where
  ls : Owns H bl l 5
  l0 : hcell H bl (0 + 4) = some (.slice (some ⟨b0, 0, none⟩) n c0)
  l1 : hcell H bl (5 + 4) = some (.slice (some ⟨b1, 0, none⟩) n c1)
  l2 : hcell H bl (10 + 4) = some (.slice (some ⟨b2, 0, none⟩) n c2)
  o0 : Owns H b0 (vcells n g0) s0
  o1 : Owns H b1 (vcells n g1) s1
  o2 : Owns H b2 (vcells n g2) s2
  d01 : b0 ≠ b1
  d02 : b0 ≠ b2
  d12 : b1 ≠ b2
  e0 : bl ≠ b0
  e1 : bl ≠ b1
  e2 : bl ≠ b2
def But3 (b0 b1 b2 : Nat) (H H' : Heap) : Prop := H.length ≤ H'.length ∧ ∀ i, i < H.length → i ≠ b0 → i ≠ b1 → i ≠ b2 → hblk H' i = hblk H i
theorem But3.refl (b0 b1 b2 : Nat) (H : Heap) : But3 b0 b1 b2 H H := ⟨Nat.le_refl _, fun _ _ _ _ _ => rfl⟩
theorem But3.trans {b0 b1 b2 : Nat} {H1 H2 H3 : Heap} (x : But3 b0 b1 b2 H1 H2) (y : But3 b0 b1 b2 H2 H3) : But3 b0 b1 b2 H1 H3 := ⟨Nat.le_trans x.1 y.1, fun i hi h0 h1 h2 => (y.2 i (Nat.lt_of_lt_of_le hi x.1) h0 h1 h2).trans (x.2 i hi h0 h1 h2)⟩
theorem But3.app (b0 b1 b2 : Nat) (H J : Heap) : But3 b0 b1 b2 H (H ++ J) := ⟨by simp, fun i hi _ _ _ => app_old hi⟩
theorem But3.old {b0 b1 b2 N : Nat} {H H' : Heap} (x : But3 b0 b1 b2 H H') (h : N ≤ b0 ∧ N ≤ b1 ∧ N ≤ b2) (hN : N ≤ H.length) : Old N H H' := ⟨x.1, fun i hi => x.2 i (by omega) (by omega) (by omega) (by omega)⟩
section
variable {H : Heap} {bl : Nat} {l : List Value} {n b0 b1 b2 c0 c1 c2 s0 s1 s2 : Nat} {g0 g1 g2 : Nat → Value}
theorem hcell_eq {H H' : Heap} {b : Nat} (h : hblk H' b = hblk H b) (o : Nat) : hcell H' b o = hcell H b o := by unfold hcell; rw [h]
theorem Tri3.app {J : Heap} (h : Tri3 H bl l n b0 b1 b2 c0 c1 c2 s0 s1 s2 g0 g1 g2) : Tri3 (H ++ J) bl l n b0 b1 b2 c0 c1 c2 s0 s1 s2 g0 g1 g2 :=
  ⟨h.ls.old (Old.app _ _) h.ls.lt, by rw [hcell_old h.ls.lt]; exact h.l0, by rw [hcell_old h.ls.lt]; exact h.l1, by rw [hcell_old h.ls.lt]; exact h.l2, h.o0.old (Old.app _ _) h.o0.lt, h.o1.old (Old.app _ _) h.o1.lt, h.o2.old (Old.app _ _) h.o2.lt, h.d01, h.d02, h.d12, h.e0, h.e1, h.e2⟩
theorem Tri3.congr {f0 f1 f2 : Nat → Value} (h : Tri3 H bl l n b0 b1 b2 c0 c1 c2 s0 s1 s2 g0 g1 g2) (h0 : ∀ j, g0 j = f0 j) (h1 : ∀ j, g1 j = f1 j) (h2 : ∀ j, g2 j = f2 j) : Tri3 H bl l n b0 b1 b2 c0 c1 c2 s0 s1 s2 f0 f1 f2 := by
  rw [show f0 = g0 from funext fun j => (h0 j).symm, show f1 = g1 from funext fun j => (h1 j).symm, show f2 = g2 from funext fun j => (h2 j).symm]; exact h
theorem Tri3.put0 (h : Tri3 H bl l n b0 b1 b2 c0 c1 c2 s0 s1 s2 g0 g1 g2) {i : Nat} (hi : i < n) (v : Value) : ∃ H', (∀ (R : Type) (K : Heap → Option R), hst1 H (some ⟨b0, i, none⟩) v K = K H') ∧ Tri3 H' bl l n b0 b1 b2 c0 c1 c2 s0 s1 s2 (fun j => if j = i then v else g0 j) g1 g2 ∧ But3 b0 b1 b2 H H' := by
  obtain ⟨H', e, O, n', s⟩ := hst1_own (o := i) h.o0 (by rw [vcells_len]; exact hi) v
  rw [vcells_set n g0 hi] at O
  refine ⟨H', e, ⟨?_, by rw [hcell_eq (s _ h.e0)]; exact h.l0, by rw [hcell_eq (s _ h.e0)]; exact h.l1, by rw [hcell_eq (s _ h.e0)]; exact h.l2, O, ?_, ?_, h.d01, h.d02, h.d12, h.e0, h.e1, h.e2⟩, by omega, fun j _ h0 _ _ => s j h0⟩
  · unfold Owns; rw [s _ h.e0]; exact h.ls
  · unfold Owns; rw [s _ h.d01.symm]; exact h.o1
  · unfold Owns; rw [s _ h.d02.symm]; exact h.o2
theorem Tri3.put1 (h : Tri3 H bl l n b0 b1 b2 c0 c1 c2 s0 s1 s2 g0 g1 g2) {i : Nat} (hi : i < n) (v : Value) : ∃ H', (∀ (R : Type) (K : Heap → Option R), hst1 H (some ⟨b1, i, none⟩) v K = K H') ∧ Tri3 H' bl l n b0 b1 b2 c0 c1 c2 s0 s1 s2 g0 (fun j => if j = i then v else g1 j) g2 ∧ But3 b0 b1 b2 H H' := by
  obtain ⟨H', e, O, n', s⟩ := hst1_own (o := i) h.o1 (by rw [vcells_len]; exact hi) v
  rw [vcells_set n g1 hi] at O
  refine ⟨H', e, ⟨?_, by rw [hcell_eq (s _ h.e1)]; exact h.l0, by rw [hcell_eq (s _ h.e1)]; exact h.l1, by rw [hcell_eq (s _ h.e1)]; exact h.l2, ?_, O, ?_, h.d01, h.d02, h.d12, h.e0, h.e1, h.e2⟩, by omega, fun j _ _ h0 _ => s j h0⟩
  · unfold Owns; rw [s _ h.e1]; exact h.ls
  · unfold Owns; rw [s _ h.d01]; exact h.o0
  · unfold Owns; rw [s _ h.d12.symm]; exact h.o2
theorem Tri3.put2 (h : Tri3 H bl l n b0 b1 b2 c0 c1 c2 s0 s1 s2 g0 g1 g2) {i : Nat} (hi : i < n) (v : Value) : ∃ H', (∀ (R : Type) (K : Heap → Option R), hst1 H (some ⟨b2, i, none⟩) v K = K H') ∧ Tri3 H' bl l n b0 b1 b2 c0 c1 c2 s0 s1 s2 g0 g1 (fun j => if j = i then v else g2 j) ∧ But3 b0 b1 b2 H H' := by
  obtain ⟨H', e, O, n', s⟩ := hst1_own (o := i) h.o2 (by rw [vcells_len]; exact hi) v
  rw [vcells_set n g2 hi] at O
  refine ⟨H', e, ⟨?_, by rw [hcell_eq (s _ h.e2)]; exact h.l0, by rw [hcell_eq (s _ h.e2)]; exact h.l1, by rw [hcell_eq (s _ h.e2)]; exact h.l2, ?_, ?_, O, h.d01, h.d02, h.d12, h.e0, h.e1, h.e2⟩, by omega, fun j _ _ _ h0 => s j h0⟩
  · unfold Owns; rw [s _ h.e2]; exact h.ls
  · unfold Owns; rw [s _ h.d02]; exact h.o0
  · unfold Owns; rw [s _ h.d12]; exact h.o1
theorem Tri3.v0 (h : Tri3 H bl l n b0 b1 b2 c0 c1 c2 s0 s1 s2 g0 g1 g2) {i : Nat} (hi : i < n) {v : Value} (e : g0 i = v) : hcell H b0 i = some v := by rw [h.o0.sees.cell, vcells_get _ _ hi, e]
theorem Tri3.v1 (h : Tri3 H bl l n b0 b1 b2 c0 c1 c2 s0 s1 s2 g0 g1 g2) {i : Nat} (hi : i < n) {v : Value} (e : g1 i = v) : hcell H b1 i = some v := by rw [h.o1.sees.cell, vcells_get _ _ hi, e]
theorem Tri3.v2 (h : Tri3 H bl l n b0 b1 b2 c0 c1 c2 s0 s1 s2 g0 g1 g2) {i : Nat} (hi : i < n) {v : Value} (e : g2 i = v) : hcell H b2 i = some v := by rw [h.o2.sees.cell, vcells_get _ _ hi, e]
end
/-- The first three rows of a list that was made, and the list after their change. -/
theorem Outs.tri {N : Nat} {H : Heap} {q : Option Addr} {lo c : Nat} {outs es : List Pr} (f : Int → Int → Int → Int × Int × Int) (h : Outs N H q lo c outs) (hm : outs.map Pr.pl = es.map Pr.pl) (h3 : 3 ≤ es.length) {n : Nat} (hn : ∀ e ∈ es.take 3, e.xs.length = n) :
    ∃ bl c0 c1 c2 s0 s1 s2 b0 b1 b2 X Y Z, q = some ⟨bl, 0, none⟩ ∧ Tri3 H bl (cellsOf outs) n b0 b1 b2 c0 c1 c2 s0 s1 s2 (mx f X Y Z pr0 0) (mx f X Y Z pr1 0) (mx f X Y Z pr2 0) ∧ (N ≤ b0 ∧ N ≤ b1 ∧ N ≤ b2) ∧
      (∀ e0 e1 e2 r, es = e0 :: e1 :: e2 :: r → X = e0.xs ∧ Y = e1.xs ∧ Z = e2.xs) ∧
      ∀ H2, Tri3 H2 bl (cellsOf outs) n b0 b1 b2 c0 c1 c2 s0 s1 s2 (mx f X Y Z pr0 n) (mx f X Y Z pr1 n) (mx f X Y Z pr2 n) → But3 b0 b1 b2 H H2 → ∃ outs2, Outs N H2 q lo c outs2 ∧ outs2.map Pr.pl = trq f (es.map Pr.pl) := by
  have hlen : outs.length = es.length := by have := congrArg List.length hm; simpa using this
  obtain ⟨f0, f1, f2, r, rfl⟩ := three (es := outs) (by omega)
  obtain ⟨g0, g1, g2, r', rfl⟩ := three h3
  simp only [List.map_cons, List.cons.injEq] at hm
  obtain ⟨m0, m1, m2, mr⟩ := hm
  have hx0 : f0.xs = g0.xs := congrArg (fun p : PL => p.2.2.2.2) m0
  have hx1 : f1.xs = g1.xs := congrArg (fun p : PL => p.2.2.2.2) m1
  have hx2 : f2.xs = g2.xs := congrArg (fun p : PL => p.2.2.2.2) m2
  have n0 : f0.xs.length = n := by rw [hx0]; exact hn g0 (by simp)
  have n1 : f1.xs.length = n := by rw [hx1]; exact hn g1 (by simp)
  have n2 : f2.xs.length = n := by rw [hx2]; exact hn g2 (by simp)
  obtain ⟨b0, s0, q0, k0, o0⟩ := h.own f0 (by simp)
  obtain ⟨b1, s1, q1, k1, o1⟩ := h.own f1 (by simp)
  obtain ⟨b2, s2, q2, k2, o2⟩ := h.own f2 (by simp)
  rcases h.bld with ⟨_, _, _, h4⟩ | ⟨bl, hq, hc, hNb, hO, hll⟩
  · simp [cellsOf, Pr.cells, pl5] at h4
  · have hdis := h.dis
    have hlst := h.lst
    rw [List.pairwise_cons, List.pairwise_cons, List.pairwise_cons] at hdis
    obtain ⟨da, db, dc, dd⟩ := hdis
    have d01 : b0 ≠ b1 := fun e => da f1 (by simp) (by rw [q0, q1, e])
    have d02 : b0 ≠ b2 := fun e => da f2 (by simp) (by rw [q0, q2, e])
    have d12 : b1 ≠ b2 := fun e => db f2 (by simp) (by rw [q1, q2, e])
    have e0 : bl ≠ b0 := fun e => hlst f0 (by simp) (by rw [q0, hq, e])
    have e1 : bl ≠ b1 := fun e => hlst f1 (by simp) (by rw [q1, hq, e])
    have e2 : bl ≠ b2 := fun e => hlst f2 (by simp) (by rw [q2, hq, e])
    have cc : cellsOf (f0 :: f1 :: f2 :: r) = f0.cells ++ (f1.cells ++ (f2.cells ++ cellsOf r)) := rfl
    refine ⟨bl, f0.c, f1.c, f2.c, s0, s1, s2, b0, b1, b2, f0.xs, f1.xs, f2.xs, hq, ⟨hO, ?_, ?_, ?_, ?_, ?_, ?_, d01, d02, d12, e0, e1, e2⟩, ⟨k0, k1, k2⟩, fun a b c d e => ?_, fun H2 T B => ?_⟩
    · rw [hO.sees.cell, ← q0, ← n0]; rfl
    · rw [hO.sees.cell, ← q1, ← n1]; rfl
    · rw [hO.sees.cell, ← q2, ← n2]; rfl
    · rw [← n0, mx_none f _ _ _ f0.xs pr0 (fun t => rfl)]; exact o0
    · rw [← n1, mx_none f _ _ _ f1.xs pr1 (fun t => rfl)]; exact o1
    · rw [← n2, mx_none f _ _ _ f2.xs pr2 (fun t => rfl)]; exact o2
    · cases e; exact ⟨hx0, hx1, hx2⟩
    · have w0 : vcells n (mx f f0.xs f1.xs f2.xs pr0 n) = ints (tr3 f f0.xs f1.xs f2.xs pr0) := by rw [← n0]; exact mx_all _ _ _ _ _
      have w1 : vcells n (mx f f0.xs f1.xs f2.xs pr1 n) = ints (tr3 f f0.xs f1.xs f2.xs pr1) := by rw [← n0]; exact mx_all _ _ _ _ _
      have w2 : vcells n (mx f f0.xs f1.xs f2.xs pr2 n) = ints (tr3 f f0.xs f1.xs f2.xs pr2) := by rw [← n0]; exact mx_all _ _ _ _ _
      have t0 := T.o0; have t1 := T.o1; have t2 := T.o2
      rw [w0] at t0; rw [w1] at t1; rw [w2] at t2
      have cells2 : cellsOf ({ f0 with xs := tr3 f f0.xs f1.xs f2.xs pr0 } :: { f1 with xs := tr3 f f0.xs f1.xs f2.xs pr1 } :: { f2 with xs := tr3 f f0.xs f1.xs f2.xs pr2 } :: r) = cellsOf (f0 :: f1 :: f2 :: r) := by
        simp only [cellsOf_cons, Pr.cells, tr3_len, n0, n1, n2]
      refine ⟨{ f0 with xs := tr3 f f0.xs f1.xs f2.xs pr0 } :: { f1 with xs := tr3 f f0.xs f1.xs f2.xs pr1 } :: { f2 with xs := tr3 f f0.xs f1.xs f2.xs pr2 } :: r, ⟨?_, ?_, ?_, ?_⟩, ?_⟩
      · rw [cells2]; exact .inr ⟨bl, hq, hc, hNb, T.ls, hll⟩
      · intro e he
        simp only [List.mem_cons] at he
        rcases he with rfl | rfl | rfl | he
        · exact ⟨b0, s0, q0, k0, t0⟩
        · exact ⟨b1, s1, q1, k1, t1⟩
        · exact ⟨b2, s2, q2, k2, t2⟩
        · obtain ⟨b, s, hqe, hb, ho⟩ := h.own e (by simp [he])
          refine ⟨b, s, hqe, hb, ?_⟩
          unfold Owns
          rw [B.2 b ho.lt (fun hh => da e (by simp [he]) (by rw [q0, hqe, hh])) (fun hh => db e (by simp [he]) (by rw [q1, hqe, hh])) (fun hh => dc e he (by rw [q2, hqe, hh]))]
          exact ho
      · rw [List.pairwise_cons, List.pairwise_cons, List.pairwise_cons]
        refine ⟨fun e he => ?_, fun e he => ?_, fun e he => dc e he, dd⟩
        · simp only [List.mem_cons] at he
          rcases he with rfl | rfl | he
          · exact da f1 (by simp)
          · exact da f2 (by simp)
          · exact da e (by simp [he])
        · simp only [List.mem_cons] at he
          rcases he with rfl | he
          · exact db f2 (by simp)
          · exact db e (by simp [he])
      · intro e he
        simp only [List.mem_cons] at he
        rcases he with rfl | rfl | rfl | he
        · exact hlst f0 (by simp)
        · exact hlst f1 (by simp)
        · exact hlst f2 (by simp)
        · exact hlst e (by simp [he])
      · simp only [List.map_cons, mr]
        obtain ⟨a0, a1, a2, a3, a4, a5, a6⟩ := g0
        obtain ⟨b0', b1', b2', b3, b4, b5, b6⟩ := g1
        obtain ⟨c0, c1, c2, c3, c4, c5, c6⟩ := g2
        obtain ⟨x0, x1, x2, x3, x4, x5, x6⟩ := f0
        obtain ⟨y0, y1, y2, y3, y4, y5, y6⟩ := f1
        obtain ⟨z0, z1, z2, z3, z4, z5, z6⟩ := f2
        simp only [Pr.pl, Prod.mk.injEq] at m0 m1 m2
        obtain ⟨rfl, rfl, rfl, rfl, rfl⟩ := m0
        obtain ⟨rfl, rfl, rfl, rfl, rfl⟩ := m1
        obtain ⟨rfl, rfl, rfl, rfl, rfl⟩ := m2
        rfl
end Go.Proofs.Ytoeoolnkndkefaa.Sh
