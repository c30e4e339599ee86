/- Values and flags are what was set last. -/
import Derived.Test.YtblpaolcgkjcgaaCbOps
import Derived.Test.YtblpaolcgkjcgaaFwN
import Derived.Test.YtblpaolcgkjcgaaSh17
set_option linter.unusedVariables false
set_option linter.unusedSimpArgs false
namespace Go.Proofs.Ytblpaolcgkjcgaa.Sh
open Go.Proofs.Ytblpaolcgkjcgaa.FW
def fl (c : Cel) : Int := (bif c.s then 1 else 0) + (bif c.t then 2 else 0) + (bif c.r then 4 else 0)
theorem fl_or1 (c : Cel) {R : Type} (K : Int → Option R) : hbin .or .i64 (fl c) 1 K = K (fl { c with s := true }) := by
  obtain ⟨v, s, t, r⟩ := c; cases s <;> cases t <;> cases r <;> kernel_rfl
theorem fl_or2 (c : Cel) {R : Type} (K : Int → Option R) : hbin .or .i64 (fl c) 2 K = K (fl { c with t := true }) := by
  obtain ⟨v, s, t, r⟩ := c; cases s <;> cases t <;> cases r <;> kernel_rfl
theorem fl_no2 (c : Cel) {R : Type} (K : Int → Option R) : hbin .andNot .i64 (fl c) 2 K = K (fl { c with t := false }) := by
  obtain ⟨v, s, t, r⟩ := c; cases s <;> cases t <;> cases r <;> kernel_rfl
theorem fl_or4 (c : Cel) {R : Type} (K : Int → Option R) : hbin .or .i64 (fl c) 4 K = K (fl { c with r := true }) := by
  obtain ⟨v, s, t, r⟩ := c; cases s <;> cases t <;> cases r <;> kernel_rfl
theorem fl_and1 (c : Cel) {R : Type} (K : Int → Option R) : hbin .and .i64 (fl c) 1 K = K (bif c.s then 1 else 0) := by
  obtain ⟨v, s, t, r⟩ := c; cases s <;> cases t <;> cases r <;> kernel_rfl
theorem fl_and2 (c : Cel) {R : Type} (K : Int → Option R) : hbin .and .i64 (fl c) 2 K = K (bif c.t then 2 else 0) := by
  obtain ⟨v, s, t, r⟩ := c; cases s <;> cases t <;> cases r <;> kernel_rfl
theorem fl_and4 (c : Cel) {R : Type} (K : Int → Option R) : hbin .and .i64 (fl c) 4 K = K (bif c.r then 4 else 0) := by
  obtain ⟨v, s, t, r⟩ := c; cases s <;> cases t <;> cases r <;> kernel_rfl
/-- The block, and beside it two rows: the values, and the flags as bits. -/
structure Kp (N : Nat) (H : Heap) (a1 a2 bv bf w h : Nat) (g : Nat → Cel) : Prop where
  a : Blk H a1 a2 w h g
  v : OwnV H bv (w * h) (fun i => .int .i64 (g i).v)
  f : OwnV H bf (w * h) (fun i => .int .i64 (fl (g i)))
  d1 : a1 ≠ bv
  d2 : a2 ≠ bv
  d3 : a1 ≠ bf
  d4 : a2 ≠ bf
  d5 : bv ≠ bf
  na : N ≤ a2
  nv : N ≤ bv
  nf : N ≤ bf
/-- What a call may change. -/
def okOp (w h : Nat) (o : Op4) : Bool := inn w h o.2.1 o.2.2.1 && (o.1 != 0 || (decide (-1152921504606846976 < o.2.2.2) && decide (o.2.2.2 < 1152921504606846976)))
theorem opr_ok {w h : Nat} {g : Nat → Cel} (o : Op4) : ((opr w h g o.1 o.2.1 o.2.2.1 o.2.2.2).1 == 0) = okOp w h o := by
  obtain ⟨k, x, y, v⟩ := o
  unfold opr okOp
  show ((bif inn w h x y then _ else _ : Int × (Nat → Cel)).1 == 0) = (inn w h x y && (k != 0 || (decide (-1152921504606846976 < v) && decide (v < 1152921504606846976))))
  cases inn w h x y with
  | false => rfl
  | true =>
    simp only [cond_true, Bool.true_and]
    by_cases k0 : k = 0
    · subst k0
      simp only [if_true, bne_self_eq_false, Bool.false_or]
      have e1 : decide (v > 1152921504606846975) = !decide (v < 1152921504606846976) := by
        by_cases c : v < 1152921504606846976
        · simp [c]; omega
        · simp [c]; omega
      have e2 : decide (v < -1152921504606846975) = !decide (-1152921504606846976 < v) := by
        by_cases c : -1152921504606846976 < v
        · simp [c]; omega
        · simp [c]; omega
      rw [e1, e2]
      cases decide (v < 1152921504606846976) <;> cases decide (-1152921504606846976 < v) <;> rfl
    · have : (k != 0) = true := by simpa using k0
      rw [this, if_neg k0]
      split
      · rfl
      · split
        · rfl
        · split <;> rfl
theorem p2_eq (k : Nat) {w h : Nat} {o : Op4} {H : Heap} {b : Nat} (B : Owns H b (opc o) 0) {R : Type} (q : Option Addr) (l c : Nat) (p : Option Addr) (q1 : Option Addr) (l1 c1 : Nat) (q2 : Option Addr) (l2 c2 : Nat) (n : Int) (KN : Int → Int → Option Addr → Nat → Nat → Option Addr → Option Addr → Nat → Nat → Option Addr → Nat → Nat → Int → Option Addr → Bool → Option R) :
    L_CblkKeeps_p2 k (w : Int) (h : Int) q l c p q1 l1 c1 q2 l2 c2 n (some ⟨b, 0, none⟩) H KN = KN w h q l c p q1 l1 c1 q2 l2 c2 n (some ⟨b, 0, none⟩) (okOp w h o) := by
  obtain ⟨kd, x, y, v⟩ := o
  have m0 : ∀ K : Int → Option R, ldI .i64 H (some ⟨b, 0, none⟩) K = K kd := fun K => ldI_of (by rw [Owns.at B]; rfl) rfl K
  have m1 : ∀ K : Int → Option R, ldI .i64 H (some ⟨b, 1, none⟩) K = K x := fun K => ldI_of (by rw [Owns.at B]; rfl) rfl K
  have m2 : ∀ K : Int → Option R, ldI .i64 H (some ⟨b, 2, none⟩) K = K y := fun K => ldI_of (by rw [Owns.at B]; rfl) rfl K
  have m3 : ∀ K : Int → Option R, ldI .i64 H (some ⟨b, 3, none⟩) K = K v := fun K => ldI_of (by rw [Owns.at B]; rfl) rfl K
  unfold L_CblkKeeps_p2 L_CblkKeeps_p2_b okOp inn
  simp only [hfad, Nat.zero_add, m0, m1, m2, m3]
  cases decide (0 ≤ x) <;> cases decide (x < (w : Int)) <;> cases decide (0 ≤ y) <;> cases decide (y < (h : Int)) <;> cases (kd != 0) <;> cases decide (-1152921504606846976 < v) <;> rfl
/-- One call of the law's loop, when the call is let in. -/
theorem Kp.step {N : Nat} {H : Heap} {a1 a2 bv bf w h : Nat} {g : Nat → Cel} (T : Kp N H a1 a2 bv bf w h g) (k : Nat) {q : Option Addr} {ops : List Op4} (c : Nat) (hq : ops.flatMap opc = [] ∨ Below N q) (hS : Shows H q (ops.flatMap opc)) (hN : N ≤ H.length) {i : Nat} {o : Op4} (ho : ops[i]? = some o) :
    ∃ H', (∀ (R : Type) (KN : Int → Int → Option Addr → Nat → Nat → Option Addr → Option Addr → Nat → Nat → Option Addr → Nat → Nat → Int → Heap → Option R) (KR : Bool → Heap → Option R), L_CblkKeeps_p1 k (w : Int) (h : Int) q ops.length c (some ⟨a1, 0, none⟩) (some ⟨bv, 0, none⟩) (w * h) (w * h) (some ⟨bf, 0, none⟩) (w * h) (w * h) (i : Int) H KN KR = KN w h q ops.length c (some ⟨a1, 0, none⟩) (some ⟨bv, 0, none⟩) (w * h) (w * h) (some ⟨bf, 0, none⟩) (w * h) (w * h) i H') ∧ Kp N H' a1 a2 bv bf w h (opr w h g o.1 o.2.1 o.2.2.1 o.2.2.2).2 ∧ Old N H H' := by
  obtain ⟨kd, x, y, v⟩ := o
  obtain ⟨p, e1, l1⟩ := op_lds hS ho
  obtain ⟨H1, H2, e2, e3, B, o2, n2⟩ := hal_st H [.int .i64 0, .int .i64 0, .int .i64 0, .int .i64 0] [.int .i64 kd, .int .i64 x, .int .i64 y, .int .i64 v] rfl rfl
  have A2 := T.a.keep o2
  have V2 := T.v.keep o2
  have F2 := T.f.keep o2
  obtain ⟨H3, e4, A3, c3⟩ := do_eq k A2 kd x y v
  have hA := T.a.own.lt
  have b3 : But a2 H2 H3 := ⟨c3.1, c3.2⟩
  have V3 := V2.but b3 (Ne.symm T.d2)
  have F3 := F2.but b3 (Ne.symm T.d4)
  have B3 : Owns H3 H.length (opc (kd, x, y, v)) 0 := Owns.but B b3 (by omega)
  have o3 : Old N H H3 := (o2.mono hN).trans (b3.old T.na (by omega))
  have m : ∀ (R : Type), (∀ K : Int → Option R, ldI .i64 H3 (some ⟨H.length, 0, none⟩) K = K kd) ∧ (∀ K : Int → Option R, ldI .i64 H3 (some ⟨H.length, 1, none⟩) K = K x) ∧ (∀ K : Int → Option R, ldI .i64 H3 (some ⟨H.length, 2, none⟩) K = K y) ∧ (∀ K : Int → Option R, ldI .i64 H3 (some ⟨H.length, 3, none⟩) K = K v) := fun R =>
    ⟨fun K => ldI_of (by rw [Owns.at B3]; rfl) rfl K, fun K => ldI_of (by rw [Owns.at B3]; rfl) rfl K, fun K => ldI_of (by rw [Owns.at B3]; rfl) rfl K, fun K => ldI_of (by rw [Owns.at B3]; rfl) rfl K⟩
  have m2 : ∀ (R : Type), (∀ K : Int → Option R, ldI .i64 H2 (some ⟨H.length, 0, none⟩) K = K kd) ∧ (∀ K : Int → Option R, ldI .i64 H2 (some ⟨H.length, 1, none⟩) K = K x) ∧ (∀ K : Int → Option R, ldI .i64 H2 (some ⟨H.length, 2, none⟩) K = K y) ∧ (∀ K : Int → Option R, ldI .i64 H2 (some ⟨H.length, 3, none⟩) K = K v) := fun R =>
    ⟨fun K => ldI_of (by rw [Owns.at B]; rfl) rfl K, fun K => ldI_of (by rw [Owns.at B]; rfl) rfl K, fun K => ldI_of (by rw [Owns.at B]; rfl) rfl K, fun K => ldI_of (by rw [Owns.at B]; rfl) rfl K⟩
  have hok : ((opr w h g kd x y v).1 == 0) = okOp w h (kd, x, y, v) := opr_ok (w := w) (h := h) (g := g) (kd, x, y, v)
  simp only at l1
  have hp2 := fun (R : Type) => p2_eq k (w := w) (h := h) (o := (kd, x, y, v)) (b := H.length) B (R := R)
  cases hi : okOp w h (kd, x, y, v) with
  | false =>
    have hg : (opr w h g kd x y v).2 = g := by
      unfold opr
      unfold okOp at hi
      simp only [Bool.and_eq_false_iff] at hi
      cases hin : inn w h x y with
      | false => rfl
      | true =>
        simp only [cond_true]
        rcases hi with hi | hi
        · rw [hin] at hi; cases hi
        · simp only [Bool.or_eq_false_iff, bne_eq_false_iff_eq, Bool.and_eq_false_iff, decide_eq_false_iff_not] at hi
          obtain ⟨rfl, hi⟩ := hi
          have : (decide (v > 1152921504606846975) || decide (v < -1152921504606846975)) = true := by simp; omega
          rw [if_pos rfl, this]; rfl
    rw [hg] at A3
    refine ⟨H3, fun R KN KR => ?_, by rw [hg]; exact ⟨A3, V3, F3, T.d1, T.d2, T.d3, T.d4, T.d5, T.na, T.nv, T.nf⟩, o3⟩
    obtain ⟨q0, q1, q2, q3⟩ := m2 R
    unfold L_CblkKeeps_p1 L_CblkKeeps_p1_b
    simp only [e1, l1, e2, e3, hp2, hi, pad_some, Nat.zero_add, Nat.add_zero, q0, q1, q2, q3, e4, hok, BEq.rfl, Bool.not_true, Bool.not_false, cond_true, cond_false]
  | true =>
    have hin : inn w h x y = true := by unfold okOp at hi; rw [Bool.and_eq_true] at hi; exact hi.1
    have hlt := ix_lt hin
    have hwx := wrap_ix A3.r.bw.2 A3.r.bh.2 hin
    have hi0 : ∀ (b : Nat) (R : Type) (K : Option Addr → Option R), hidx (some ⟨b, 0, none⟩) (w * h) ((ix w x y : Nat) : Int) 1 K = K (some ⟨b, ix w x y, none⟩) := fun b R K => by
      rw [hidx_1 b (w * h) 0 _ (by omega) (by omega)]; simp
    have lf : ∀ (R : Type) (K : Int → Option R), ldI .i64 H3 (some ⟨bf, ix w x y, none⟩) K = K (fl (g (ix w x y))) := fun R K => ldI_of (F3.cell hlt _) rfl K
    have hop : ∀ (kk : Int) (cc : Cel), kk = kd → opr w h g kk x y v = (0, upd g (ix w x y) cc) → (g (ix w x y)).v = cc.v →
        ∃ H', (∀ (R : Type) (K : Heap → Option R), hst1 H3 (some ⟨bf, ix w x y, none⟩) (.int .i64 (fl cc)) K = K H') ∧ Kp N H' a1 a2 bv bf w h (opr w h g kk x y v).2 ∧ Old N H H' := by
      rintro kk cc rfl ho hv
      obtain ⟨H4, e5, F4, b4, n4⟩ := F3.put hlt (.int .i64 (fl cc))
      refine ⟨H4, e5, ?_, o3.trans (b4.old T.nf (by have := o3.1; omega))⟩
      rw [ho] at A3 ⊢
      refine ⟨A3.other ⟨b4.1, b4.2⟩ T.d3 T.d4, (V3.but b4 T.d5).congr fun j hj => ?_, F4.congr fun j hj => ?_, T.d1, T.d2, T.d3, T.d4, T.d5, T.na, T.nv, T.nf⟩
      · show _ = Value.int .i64 (upd g (ix w x y) cc j).v
        unfold upd
        split
        · rename_i hj; rw [hj, hv]
        · rfl
      · show (if j = ix w x y then Value.int .i64 (fl cc) else Value.int .i64 (fl (g j))) = Value.int .i64 (fl (upd g (ix w x y) cc j))
        unfold upd
        split <;> rfl
    have ur : ∀ (H' : Heap), (∀ (R : Type) (KN : Int → Int → Option Addr → Nat → Nat → Option Addr → Option Addr → Nat → Nat → Option Addr → Nat → Nat → Int → Heap → Option R) (KR : Bool → Heap → Option R), L_CblkKeeps_p1 k (w : Int) (h : Int) q ops.length c (some ⟨a1, 0, none⟩) (some ⟨bv, 0, none⟩) (w * h) (w * h) (some ⟨bf, 0, none⟩) (w * h) (w * h) (i : Int) H KN KR = KN w h q ops.length c (some ⟨a1, 0, none⟩) (some ⟨bv, 0, none⟩) (w * h) (w * h) (some ⟨bf, 0, none⟩) (w * h) (w * h) i H') →
        Kp N H' a1 a2 bv bf w h (opr w h g kd x y v).2 → Old N H H' → ∃ H', (∀ (R : Type) (KN : Int → Int → Option Addr → Nat → Nat → Option Addr → Option Addr → Nat → Nat → Option Addr → Nat → Nat → Int → Heap → Option R) (KR : Bool → Heap → Option R), L_CblkKeeps_p1 k (w : Int) (h : Int) q ops.length c (some ⟨a1, 0, none⟩) (some ⟨bv, 0, none⟩) (w * h) (w * h) (some ⟨bf, 0, none⟩) (w * h) (w * h) (i : Int) H KN KR = KN w h q ops.length c (some ⟨a1, 0, none⟩) (some ⟨bv, 0, none⟩) (w * h) (w * h) (some ⟨bf, 0, none⟩) (w * h) (w * h) i H') ∧ Kp N H' a1 a2 bv bf w h (opr w h g kd x y v).2 ∧ Old N H H' := fun H' p1 p2 p3 => ⟨H', p1, p2, p3⟩
    by_cases k0 : kd = 0
    · subst k0
      have hv : opr w h g 0 x y v = (0, upd g (ix w x y) { g (ix w x y) with v := v }) := by
        unfold okOp at hi
        rw [hin] at hi
        simp only [bne_self_eq_false, Bool.false_or, Bool.true_and, Bool.and_eq_true, decide_eq_true_eq] at hi
        unfold opr
        have : (decide (v > 1152921504606846975) || decide (v < -1152921504606846975)) = false := by simp; omega
        rw [hin, cond_true, if_pos rfl, this, cond_false]
      obtain ⟨H4, e5, V4, b4, n4⟩ := V3.put hlt (.int .i64 v)
      refine ur H4 (fun R KN KR => ?_) ?_ (o3.trans (b4.old T.nv (by have := o3.1; omega)))
      · obtain ⟨q0, q1, q2, q3⟩ := m2 R
        obtain ⟨r0, r1, r2, r3⟩ := m R
        unfold L_CblkKeeps_p1 L_CblkKeeps_p1_b
        simp only [e1, l1, e2, e3, hp2, hi, pad_some, hfad, Nat.zero_add, Nat.add_zero, q0, q1, q2, q3, r0, r1, r2, r3, e4, hok, BEq.rfl, Bool.not_true, Bool.not_false, cond_true, cond_false, hwx, hi0, e5]
      · rw [hv] at A3 ⊢
        refine ⟨A3.other ⟨b4.1, b4.2⟩ T.d1 T.d2, V4.congr fun j hj => ?_, (F3.but b4 (Ne.symm T.d5)).congr fun j hj => ?_, T.d1, T.d2, T.d3, T.d4, T.d5, T.na, T.nv, T.nf⟩
        · show (if j = ix w x y then Value.int .i64 v else Value.int .i64 (g j).v) = Value.int .i64 (upd g (ix w x y) _ j).v
          unfold upd
          split <;> rfl
        · show _ = Value.int .i64 (fl (upd g (ix w x y) _ j))
          unfold upd
          split
          · rename_i hj; rw [hj]; rfl
          · rfl
    · have d0 : (kd == 0) = false := by simpa using k0
      by_cases k1 : kd = 1
      · obtain ⟨H4, e5, K4, o4⟩ := hop 1 { g (ix w x y) with s := true } k1.symm (by unfold opr; rw [hin]; rfl) rfl
        subst k1
        refine ur H4 (fun R KN KR => ?_) K4 o4
        obtain ⟨q0, q1, q2, q3⟩ := m2 R
        obtain ⟨r0, r1, r2, r3⟩ := m R
        unfold L_CblkKeeps_p1 L_CblkKeeps_p1_b
        simp only [e1, l1, e2, e3, hp2, hi, pad_some, hfad, Nat.zero_add, Nat.add_zero, q0, q1, q2, q3, r0, r1, r2, r3, e4, hok, d0, BEq.rfl, Bool.not_true, Bool.not_false, cond_true, cond_false, hwx, hi0, lf, fl_or1, e5]
      · have d1 : (kd == 1) = false := by simpa using k1
        by_cases k2 : kd = 2
        · obtain ⟨H4, e5, K4, o4⟩ := hop 2 { g (ix w x y) with t := true } k2.symm (by unfold opr; rw [hin]; rfl) rfl
          subst k2
          refine ur H4 (fun R KN KR => ?_) K4 o4
          obtain ⟨q0, q1, q2, q3⟩ := m2 R
          obtain ⟨r0, r1, r2, r3⟩ := m R
          unfold L_CblkKeeps_p1 L_CblkKeeps_p1_b
          simp only [e1, l1, e2, e3, hp2, hi, pad_some, hfad, Nat.zero_add, Nat.add_zero, q0, q1, q2, q3, r0, r1, r2, r3, e4, hok, d0, d1, BEq.rfl, Bool.not_true, Bool.not_false, cond_true, cond_false, hwx, hi0, lf, fl_or2, e5]
        · have d2 : (kd == 2) = false := by simpa using k2
          by_cases k3 : kd = 3
          · obtain ⟨H4, e5, K4, o4⟩ := hop 3 { g (ix w x y) with t := false } k3.symm (by unfold opr; rw [hin]; rfl) rfl
            subst k3
            refine ur H4 (fun R KN KR => ?_) K4 o4
            obtain ⟨q0, q1, q2, q3⟩ := m2 R
            obtain ⟨r0, r1, r2, r3⟩ := m R
            unfold L_CblkKeeps_p1 L_CblkKeeps_p1_b
            simp only [e1, l1, e2, e3, hp2, hi, pad_some, hfad, Nat.zero_add, Nat.add_zero, q0, q1, q2, q3, r0, r1, r2, r3, e4, hok, d0, d1, d2, BEq.rfl, Bool.not_true, Bool.not_false, cond_true, cond_false, hwx, hi0, lf, fl_no2, e5]
          · have d3 : (kd == 3) = false := by simpa using k3
            obtain ⟨H4, e5, K4, o4⟩ := hop kd { g (ix w x y) with r := true } rfl (by unfold opr; rw [hin, if_neg k0, if_neg k1, if_neg k2, if_neg k3]; rfl) rfl
            refine ur H4 (fun R KN KR => ?_) K4 o4
            obtain ⟨q0, q1, q2, q3⟩ := m2 R
            obtain ⟨r0, r1, r2, r3⟩ := m R
            unfold L_CblkKeeps_p1 L_CblkKeeps_p1_b
            simp only [e1, l1, e2, e3, hp2, hi, pad_some, hfad, Nat.zero_add, Nat.add_zero, q0, q1, q2, q3, r0, r1, r2, r3, e4, hok, d0, d1, d2, d3, BEq.rfl, Bool.not_true, Bool.not_false, cond_true, cond_false, hwx, hi0, lf, fl_or4, e5]
end Go.Proofs.Ytblpaolcgkjcgaa.Sh
