/- Values and flags are what was set last: the law's run. -/
import Derived.Test.YtblpaolcgkjcgaaCbKeeps
set_option linter.unusedVariables false
set_option linter.unusedSimpArgs false
namespace Go.Proofs.Ytblpaolcgkjcgaa.Sh
open Go.Proofs.Ytblpaolcgkjcgaa.FW
theorem keeps_loop (k : Nat) {N : Nat} {q : Option Addr} {ops : List Op4} (c : Nat) (hq : ops.flatMap opc = [] ∨ Below N q) (hlen : ops.length < 1000000) {a1 a2 bv bf w h : Nat} : ∀ (m n i : Nat), m < n → ops.length = i + m → ∀ (H : Heap) (g : Nat → Cel), Kp N H a1 a2 bv bf w h g → Shows H q (ops.flatMap opc) → N ≤ H.length →
    ∃ H' g', (∀ (R : Type) (KE : Int → Int → Option Addr → Option Addr → Nat → Nat → Option Addr → Nat → Nat → Heap → Option R) (KR : Bool → Heap → Option R), L_CblkKeeps_l0 k KE KR n (w : Int) (h : Int) q ops.length c (some ⟨a1, 0, none⟩) (some ⟨bv, 0, none⟩) (w * h) (w * h) (some ⟨bf, 0, none⟩) (w * h) (w * h) (i : Int) H = KE w h (some ⟨a1, 0, none⟩) (some ⟨bv, 0, none⟩) (w * h) (w * h) (some ⟨bf, 0, none⟩) (w * h) (w * h) H') ∧ Kp N H' a1 a2 bv bf w h g' ∧ Old N H H' := by
  intro m
  induction m with
  | zero =>
    intro n i hn hi H g T hS hN
    obtain ⟨n, rfl⟩ : ∃ n', n = n' + 1 := ⟨n - 1, by omega⟩
    refine ⟨H, g, fun R KE KR => ?_, T, .refl _ _⟩
    have ed : decide ((i : Int) < ((ops.length : Nat) : Int)) = false := by simp; omega
    simp only [L_CblkKeeps_l0, L_CblkKeeps_l0_b, ed, cond_false]
  | succ m ih =>
    intro n i hn hi H g T hS hN
    obtain ⟨n, rfl⟩ : ∃ n', n = n' + 1 := ⟨n - 1, by omega⟩
    have ho : ops[i]? = some ops[i] := List.getElem?_eq_getElem (by omega)
    obtain ⟨H1, e1, T1, o1⟩ := T.step k c hq hS hN ho
    obtain ⟨H', g', i1, i2, i3⟩ := ih n (i + 1) (by omega) (by omega) H1 _ T1 (hS.old o1 hq) (by have := o1.1; omega)
    refine ⟨H', g', fun R KE KR => ?_, i2, o1.trans i3⟩
    have ed : decide ((i : Int) < ((ops.length : Nat) : Int)) = true := by simp; omega
    have ew : IntKind.wrap .i64 ((i : Int) + 1) = ((i + 1 : Nat) : Int) := by rw [w64 (by omega) (by omega)]; rfl
    simp only [L_CblkKeeps_l0, L_CblkKeeps_l0_b, ed, cond_true, e1, ew, i1]
section
variable {N : Nat} {H : Heap} {a1 a2 bv bf w h : Nat} {g : Nat → Cel}
theorem p5_eq (T : Kp N H a1 a2 bv bf w h g) (k : Nat) {x y : Int} (hi : inn w h x y = true) (R : Type) (KN : Int → Int → Option Addr → Option Addr → Nat → Nat → Option Addr → Nat → Nat → Int → Int → Option R) (KR : Bool → Option R) :
    L_CblkKeeps_p5 k (w : Int) (h : Int) (some ⟨a1, 0, none⟩) (some ⟨bv, 0, none⟩) (w * h) (w * h) (some ⟨bf, 0, none⟩) (w * h) (w * h) y x H KN KR = KN w h (some ⟨a1, 0, none⟩) (some ⟨bv, 0, none⟩) (w * h) (w * h) (some ⟨bf, 0, none⟩) (w * h) (w * h) y x := by
  have hlt := ix_lt hi
  have hwx := wrap_ix T.a.r.bw.2 T.a.r.bh.2 hi
  have hi0 : ∀ (b : Nat) (R : Type) (K : Option Addr → Option R), hidx (some ⟨b, 0, none⟩) (w * h) ((ix w x y : Nat) : Int) 1 K = K (some ⟨b, ix w x y, none⟩) := fun b R K => by
    rw [hidx_1 b (w * h) 0 _ (by omega) (by omega)]; simp
  have lf : ∀ (R : Type) (K : Int → Option R), ldI .i64 H (some ⟨bf, ix w x y, none⟩) K = K (fl (g (ix w x y))) := fun R K => ldI_of (T.f.cell hlt _) rfl K
  have lv : ∀ (R : Type) (K : Int → Option R), ldI .i64 H (some ⟨bv, ix w x y, none⟩) K = K (g (ix w x y)).v := fun R K => ldI_of (T.v.cell hlt _) rfl K
  have B2 : BlkR (roH H) a1 a2 w h g := ⟨T.a.r.hd.ro, T.a.r.cs.ro, T.a.r.bw, T.a.r.bh⟩
  have hgc : gc w h g x y = g (ix w x y) := by unfold gc; rw [hi]; rfl
  unfold L_CblkKeeps_p5 L_CblkKeeps_p5_b
  simp only [hwx, hi0, lf, lv, Value_eq k B2, Significant_eq k T.a.r, Touched_eq k T.a.r, Refined_eq k T.a.r, hgc, bne_self_eq_false, cond_false, fl_and1, fl_and2, fl_and4]
  cases (g (ix w x y)).s <;> cases (g (ix w x y)).t <;> cases (g (ix w x y)).r <;> rfl
theorem keeps_l4 (T : Kp N H a1 a2 bv bf w h g) (k : Nat) (y : Int) (hy : 0 ≤ y ∧ y < h) : ∀ (m n : Nat) (x : Int), m < n → (w : Int) = x + m → 0 ≤ x → ∀ (R : Type) (KE : Int → Int → Option Addr → Option Addr → Nat → Nat → Option Addr → Nat → Nat → Int → Option R) (KR : Bool → Option R),
    L_CblkKeeps_l4 k KE KR n (w : Int) (h : Int) (some ⟨a1, 0, none⟩) (some ⟨bv, 0, none⟩) (w * h) (w * h) (some ⟨bf, 0, none⟩) (w * h) (w * h) y x H = KE w h (some ⟨a1, 0, none⟩) (some ⟨bv, 0, none⟩) (w * h) (w * h) (some ⟨bf, 0, none⟩) (w * h) (w * h) y := by
  intro m
  induction m with
  | zero =>
    intro n x hn hx h0 R KE KR
    obtain ⟨n, rfl⟩ : ∃ n', n = n' + 1 := ⟨n - 1, by omega⟩
    have ed : decide (x < (w : Int)) = false := by simp; omega
    simp only [L_CblkKeeps_l4, L_CblkKeeps_l4_b, ed, cond_false]
  | succ m ih =>
    intro n x hn hx h0 R KE KR
    obtain ⟨n, rfl⟩ : ∃ n', n = n' + 1 := ⟨n - 1, by omega⟩
    have ed : decide (x < (w : Int)) = true := by simp; omega
    have hw := T.a.r.bw
    have ew : IntKind.wrap .i64 (x + 1) = x + 1 := w64 (by omega) (by omega)
    have hi : inn w h x y = true := by unfold inn; simp; omega
    simp only [L_CblkKeeps_l4, L_CblkKeeps_l4_b, ed, cond_true, p5_eq T k hi, ew]
    exact ih n (x + 1) (by omega) (by omega) (by omega) R KE KR
theorem keeps_l3 (T : Kp N H a1 a2 bv bf w h g) (k : Nat) (hk : 70 < k) : ∀ (m n : Nat) (y : Int), m < n → (h : Int) = y + m → 0 ≤ y → ∀ (R : Type) (KE : Unit → Option R) (KR : Bool → Option R),
    L_CblkKeeps_l3 k KE KR n (w : Int) (h : Int) (some ⟨a1, 0, none⟩) (some ⟨bv, 0, none⟩) (w * h) (w * h) (some ⟨bf, 0, none⟩) (w * h) (w * h) y H = KE () := by
  intro m
  induction m with
  | zero =>
    intro n y hn hx h0 R KE KR
    obtain ⟨n, rfl⟩ : ∃ n', n = n' + 1 := ⟨n - 1, by omega⟩
    have ed : decide (y < (h : Int)) = false := by simp; omega
    simp only [L_CblkKeeps_l3, L_CblkKeeps_l3_b, ed, cond_false]
  | succ m ih =>
    intro n y hn hx h0 R KE KR
    obtain ⟨n, rfl⟩ : ∃ n', n = n' + 1 := ⟨n - 1, by omega⟩
    have ed : decide (y < (h : Int)) = true := by simp; omega
    have hw := T.a.r.bw
    have hh := T.a.r.bh
    have ew : IntKind.wrap .i64 (y + 1) = y + 1 := w64 (by omega) (by omega)
    have e4 := keeps_l4 T k y (by omega) w k 0 (by omega) (by omega) (by omega)
    simp only [L_CblkKeeps_l3, L_CblkKeeps_l3_b, ed, cond_true, e4, ew]
    exact ih n (y + 1) (by omega) (by omega) (by omega) R KE KR
end
theorem keeps_in (H : Heap) (us : List Value) (h : AllLies H [(.int .i64, false), (.int .i64, false), (.slc dOp, false)] us) : L_CblkKeeps_c Bool 1000 us H asB = some true := by
  obtain ⟨w, _, rfl, _, h⟩ := lies_int h
  obtain ⟨ht, _, rfl, _, h⟩ := lies_int h
  obtain ⟨q, c, es, _, rfl, _, _, hes, hS, h⟩ := lies_slc h
  cases lies_nil h
  obtain ⟨ops, hl, hf, _⟩ := ops_of es hes
  rw [hf] at hS
  rw [← hl]
  show L_CblkKeeps 1000 w ht q ops.length c H (fun t H => asB (.bool t) H) = some true
  unfold L_CblkKeeps L_CblkKeeps_b
  simp only [small_eq]
  cases hs : sml w ht ops.length with
  | false => rfl
  | true =>
    obtain ⟨a, b, rfl, rfl, h1, h2, h3, h4, h5⟩ := sml_nat hs
    have hab : a * b ≤ 144 := Nat.le_trans (Nat.mul_le_mul h2 h4) (by omega)
    obtain ⟨H1, e1, A, o1, n1⟩ := New_eq H h1 (show a ≤ 64 by omega) h3 (show b ≤ 64 by omega)
    obtain ⟨H2, e2, V, o2, n2⟩ := OwnV.make (bytes := 8) H1 (.int .i64 0) (n := a * b) (by omega) (by omega)
    obtain ⟨H3, e3, F, o3, n3⟩ := OwnV.make (bytes := 8) H2 (.int .i64 0) (n := a * b) (by omega) (by omega)
    have o123 : Old H.length H H3 := o1.trans ((o2.mono o1.1).trans (o3.mono (by omega)))
    have T : Kp H.length H3 (H.length + 1) H.length H1.length H2.length a b (fun _ => cel0) :=
      ⟨(A.keep o2).keep o3, V.keep o3, F, by omega, by omega, by omega, by omega, by omega, by omega, by omega, by omega⟩
    have hb := shows_below hS
    obtain ⟨H4, g', e4, T4, o4⟩ := keeps_loop 1000 c hb (by omega) ops.length 1000 0 (by omega) (by omega) H3 _ T (hS.old o123 hb) (by omega)
    have e5 := keeps_l3 T4 1000 (by omega) b 1000 0 (by omega) (by omega) (by omega)
    have ew : IntKind.wrap .i64 ((a : Int) * (b : Int)) = ((a * b : Nat) : Int) := by rw [← Int.natCast_mul]; exact w64 (by omega) (by omega)
    simp only [Int.natCast_zero] at e4
    simp only [Bool.not_true, cond_false, e1, bne_self_eq_false, ew, e2, e3, e4, e5]
    rfl
end Go.Proofs.Ytblpaolcgkjcgaa.Sh
