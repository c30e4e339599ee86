/- Cblk: the calls that change a block. -/
import Derived.Test.YtblpaolcgkjcgaaCbD
set_option linter.unusedVariables false
set_option linter.unusedSimpArgs false
namespace Go.Proofs.Ytblpaolcgkjcgaa.Sh
open Go.Proofs.Ytblpaolcgkjcgaa.FW
/-- The block, as one's own. -/
structure Blk (H : Heap) (b1 b2 w h : Nat) (g : Nat → Cel) : Prop where
  r : BlkR H b1 b2 w h g
  own : Owns H b2 ((List.range (w * h)).flatMap fun i => (g i).cells) 0
  ne : b1 ≠ b2
def upd (g : Nat → Cel) (i : Nat) (c : Cel) : Nat → Cel := fun j => if j = i then c else g j
/-- Only block b has changed. -/
def Chg (b : Nat) (H H' : Heap) : Prop := H.length ≤ H'.length ∧ ∀ i, i < H.length → i ≠ b → hblk H' i = hblk H i
theorem Chg.refl (b : Nat) (H : Heap) : Chg b H H := ⟨Nat.le_refl _, fun _ _ _ => rfl⟩
theorem Chg.after {b : Nat} {H H1 H2 : Heap} (o : Old H.length H H1) (c : Chg b H1 H2) : Chg b H H2 := ⟨Nat.le_trans o.1 c.1, fun i hi hne => (c.2 i (Nat.lt_of_lt_of_le hi o.1) hne).trans (o.2 i hi)⟩
theorem Blk.keep {H H' : Heap} {b1 b2 w h : Nat} {g : Nat → Cel} (B : Blk H b1 b2 w h g) (o : Old H.length H H') : Blk H' b1 b2 w h g := ⟨B.r.keep o, B.own.old o B.own.sees.lt, B.ne⟩
theorem Blk.other {H H' : Heap} {b b1 b2 w h : Nat} {g : Nat → Cel} (B : Blk H b1 b2 w h g) (o : Chg b H H') (h1 : b1 ≠ b) (h2 : b2 ≠ b) : Blk H' b1 b2 w h g := by
  have e1 := o.2 b1 B.r.hd.lt h1
  have e2 := o.2 b2 B.own.sees.lt h2
  obtain ⟨X, x1, x2⟩ := B.r.hd
  obtain ⟨Y, y1, y2⟩ := B.r.cs
  exact ⟨⟨⟨X, by rw [e1]; exact x1, x2⟩, ⟨Y, by rw [e2]; exact y1, y2⟩, B.r.bw, B.r.bh⟩, by unfold Owns; rw [e2]; exact B.own, B.ne⟩
theorem set4 (g : Nat → Cel) (c : Cel) (n i j : Nat) (hi : i < n) (hj : j < 4) (v : Value) (hc : c.cells = (g i).cells.set j v) : ((List.range n).flatMap fun i => (g i).cells).set (4 * i + j) v = (List.range n).flatMap fun k => (upd g i c k).cells := by
  apply List.ext_getElem?
  intro m
  rw [List.getElem?_set, flat4_len]
  have hm : m = 4 * (m / 4) + m % 4 := by omega
  by_cases hlt : m / 4 < n
  · rw [hm, flat4_get _ _ _ _ hlt (by omega), flat4_get _ _ _ _ hlt (by omega)]
    unfold upd
    by_cases e : m / 4 = i
    · rw [if_pos e, hc, e, List.getElem?_set]
      by_cases e2 : m % 4 = j
      · rw [e2, if_pos rfl, if_pos (by omega), if_pos rfl, if_pos (by simp [Cel.cells]; omega)]
      · rw [if_neg (by omega), if_neg (by omega)]
    · rw [if_neg e, if_neg (by omega)]
  · rw [if_neg (by omega), List.getElem?_eq_none (by rw [flat4_len]; omega), List.getElem?_eq_none (by rw [flat4_len]; omega)]
section
variable {H : Heap} {b1 b2 w h : Nat} {g : Nat → Cel}
theorem Blk.put (B : Blk H b1 b2 w h g) {i j : Nat} (hi : i < w * h) (hj : j < 4) (v : Value) (c : Cel) (hc : c.cells = (g i).cells.set j v) :
    ∃ H', (∀ (R : Type) (K : Heap → Option R), hst1 H (some ⟨b2, 4 * i + j, none⟩) v K = K H') ∧ Blk H' b1 b2 w h (upd g i c) ∧ Chg b2 H H' := by
  obtain ⟨H', e, o, n, s⟩ := hst1_own (o := 4 * i + j) B.own (by rw [flat4_len]; omega) v
  rw [set4 g c (w * h) i j hi hj v hc] at o
  obtain ⟨X, x1, x2⟩ := B.r.hd
  exact ⟨H', e, ⟨⟨⟨X, by rw [s b1 B.ne]; exact x1, x2⟩, o.sees, B.r.bw, B.r.bh⟩, o, B.ne⟩, by omega, fun i _ hne => s i hne⟩
/-- What a call returns, and what it leaves. -/
def opr (w h : Nat) (g : Nat → Cel) (kind x y v : Int) : Int × (Nat → Cel) :=
  bif inn w h x y then
    (if kind = 0 then (bif decide (v > 1152921504606846975) || decide (v < -1152921504606846975) then (2, g) else (0, upd g (ix w x y) { g (ix w x y) with v := v }))
     else if kind = 1 then (0, upd g (ix w x y) { g (ix w x y) with s := true })
     else if kind = 2 then (0, upd g (ix w x y) { g (ix w x y) with t := true })
     else if kind = 3 then (0, upd g (ix w x y) { g (ix w x y) with t := false })
     else (0, upd g (ix w x y) { g (ix w x y) with r := true }))
  else (2, g)
theorem missing_eq {R : Type} (B : BlkR H b1 b2 w h g) (K : Int → Option R) : cblk_Block_missing (some ⟨b1, 0, none⟩) H K = K 2 := by
  obtain ⟨l1, l2, l3⟩ := B.lds R
  have hp := B.pos
  have e : ((((w * h : Nat) : Nat) : Int) == 0) = false := by simp only [beq_eq_false_iff_ne]; omega
  unfold cblk_Block_missing cblk_Block_missing_b
  simp only [Option.isNone_some, cond_false, hnil, hfad, Nat.zero_add, l3, e]
theorem Set_eq (k : Nat) (B : Blk H b1 b2 w h g) (x y v : Int) : ∃ H', (∀ (R : Type) (K : Int → Heap → Option R), cblk_Block_Set k (some ⟨b1, 0, none⟩) x y v H K = K (opr w h g 0 x y v).1 H') ∧ Blk H' b1 b2 w h (opr w h g 0 x y v).2 ∧ Chg b2 H H' := by
  unfold opr
  cases e : inn w h x y with
  | false =>
    refine ⟨H, fun R K => ?_, B, .refl _ _⟩
    unfold cblk_Block_Set cblk_Block_Set_b
    rw [at_eq k B.r, e]
    simp only [cond_false, Option.isNone_none, cond_true, missing_eq B.r]
  | true =>
    cases e2 : (decide (v > 1152921504606846975) || decide (v < -1152921504606846975)) with
    | true =>
      refine ⟨H, fun R K => ?_, B, .refl _ _⟩
      unfold cblk_Block_Set cblk_Block_Set_b cblk_Block_Set_p0 cblk_Block_Set_p0_b
      rw [at_eq k B.r, e]
      simp only [cond_true, Option.isNone_some, cond_false, if_true]
      cases e3 : decide (v > 1152921504606846975) with
      | true => rfl
      | false => rw [e3, Bool.false_or] at e2; rw [e2]; rfl
    | false =>
      obtain ⟨H', q1, q2, q3⟩ := B.put (i := ix w x y) (j := 0) (ix_lt e) (by omega) (.int .i64 v) { g (ix w x y) with v := v } rfl
      refine ⟨H', fun R K => ?_, q2, q3⟩
      unfold cblk_Block_Set cblk_Block_Set_b cblk_Block_Set_p0 cblk_Block_Set_p0_b
      rw [Bool.or_eq_false_iff] at e2
      rw [at_eq k B.r, e]
      simp only [cond_true, Option.isNone_some, cond_false, e2.1, e2.2, hnil, hfad, q1, if_true]
theorem error_eq {R : Type} (B : BlkR H b1 b2 w h g) (x y : Int) (K : Int → Option R) : R14_Block_error (some ⟨b1, 0, none⟩) x y H K = K (if inn w h x y then 0 else 2) := by
  unfold R14_Block_error R14_Block_error_b
  rw [made_eq B, in_eq B]
  cases inn w h x y <;> rfl
theorem SetR_eq (k : Nat) (B : Blk H b1 b2 w h g) (x y v : Int) : ∃ H', (∀ (R : Type) (K : Int → Heap → Option R), R14_Block_Set k (some ⟨b1, 0, none⟩) x y v H K = K (opr w h g 0 x y v).1 H') ∧ Blk H' b1 b2 w h (opr w h g 0 x y v).2 ∧ Chg b2 H H' := by
  unfold opr
  cases e : inn w h x y with
  | false =>
    refine ⟨H, fun R K => ?_, B, .refl _ _⟩
    unfold R14_Block_Set R14_Block_Set_b
    rw [error_eq B.r, e]; rfl
  | true =>
    have e3 : decide (v ≤ -1152921504606846976) = decide (v < -1152921504606846975) := decide_eq_decide.2 (by omega)
    have e4 : decide (v ≥ 1152921504606846976) = decide (v > 1152921504606846975) := decide_eq_decide.2 (by omega)
    cases e2 : (decide (v > 1152921504606846975) || decide (v < -1152921504606846975)) with
    | true =>
      refine ⟨H, fun R K => ?_, B, .refl _ _⟩
      unfold R14_Block_Set R14_Block_Set_b R14_Block_Set_p0 R14_Block_Set_p0_b
      rw [error_eq B.r, e]
      simp only [if_true, bne_self_eq_false, cond_false, cond_true, e3, e4]
      cases e5 : decide (v < -1152921504606846975) with
      | true => rfl
      | false => rw [e5, Bool.or_false] at e2; rw [e2]; rfl
    | false =>
      obtain ⟨H', q1, q2, q3⟩ := B.put (i := ix w x y) (j := 0) (ix_lt e) (by omega) (.int .i64 v) { g (ix w x y) with v := v } rfl
      refine ⟨H', fun R K => ?_, q2, q3⟩
      obtain ⟨l1, l2, l3⟩ := B.r.lds R
      have hlt := ix_lt e
      unfold R14_Block_Set R14_Block_Set_b R14_Block_Set_p0 R14_Block_Set_p0_b
      rw [Bool.or_eq_false_iff] at e2
      rw [error_eq B.r, e]
      simp only [if_true, bne_self_eq_false, cond_false, cond_true, e3, e4, e2.1, e2.2, hnil, hfad, Nat.zero_add, l1, l3, wrap_ix B.r.bw.2 B.r.bh.2 e, hidx]
      rw [if_pos ⟨by omega, by omega⟩]
      simp only [Int.toNat_natCast, Nat.mul_comm (ix w x y) 4, q1]
theorem Mark_eq (k : Nat) (B : Blk H b1 b2 w h g) (x y : Int) : ∃ H', (∀ (R : Type) (K : Int → Heap → Option R), cblk_Block_Mark k (some ⟨b1, 0, none⟩) x y H K = K (if inn w h x y then 0 else 2) H') ∧ Blk H' b1 b2 w h (if inn w h x y then upd g (ix w x y) { g (ix w x y) with s := true } else g) ∧ Chg b2 H H' := by
  cases e : inn w h x y with
  | false =>
    refine ⟨H, fun R K => ?_, B, .refl _ _⟩
    unfold cblk_Block_Mark cblk_Block_Mark_b
    rw [at_eq k B.r, e]
    simp only [cond_false, Option.isNone_none, cond_true, missing_eq B.r, Bool.false_eq_true, if_false]
  | true =>
    obtain ⟨H', q1, q2, q3⟩ := B.put (i := ix w x y) (j := 1) (ix_lt e) (by omega) (.bool true) { g (ix w x y) with s := true } rfl
    refine ⟨H', fun R K => ?_, q2, q3⟩
    unfold cblk_Block_Mark cblk_Block_Mark_b
    rw [at_eq k B.r, e]
    simp only [cond_true, Option.isNone_some, cond_false, hnil, hfad, q1, if_true]
theorem MarkR_eq (B : Blk H b1 b2 w h g) (x y : Int) : ∃ H', (∀ (R : Type) (K : Int → Heap → Option R), R14_Block_Mark (some ⟨b1, 0, none⟩) x y H K = K (if inn w h x y then 0 else 2) H') ∧ Blk H' b1 b2 w h (if inn w h x y then upd g (ix w x y) { g (ix w x y) with s := true } else g) ∧ Chg b2 H H' := by
  cases e : inn w h x y with
  | false =>
    refine ⟨H, fun R K => ?_, B, .refl _ _⟩
    unfold R14_Block_Mark R14_Block_Mark_b
    rw [error_eq B.r, e]; rfl
  | true =>
    obtain ⟨H', q1, q2, q3⟩ := B.put (i := ix w x y) (j := 1) (ix_lt e) (by omega) (.bool true) { g (ix w x y) with s := true } rfl
    refine ⟨H', fun R K => ?_, q2, q3⟩
    obtain ⟨l1, l2, l3⟩ := B.r.lds R
    have hlt := ix_lt e
    unfold R14_Block_Mark R14_Block_Mark_b
    rw [error_eq B.r, e]
    simp only [if_true, bne_self_eq_false, cond_false, hnil, hfad, Nat.zero_add, l1, l3, wrap_ix B.r.bw.2 B.r.bh.2 e, hidx]
    rw [if_pos ⟨by omega, by omega⟩]
    simp only [Int.toNat_natCast, Nat.mul_comm (ix w x y) 4, q1]
theorem Touch_eq (k : Nat) (B : Blk H b1 b2 w h g) (x y : Int) (on : Bool) : ∃ H', (∀ (R : Type) (K : Int → Heap → Option R), cblk_Block_Touch k (some ⟨b1, 0, none⟩) x y on H K = K (if inn w h x y then 0 else 2) H') ∧ Blk H' b1 b2 w h (if inn w h x y then upd g (ix w x y) { g (ix w x y) with t := on } else g) ∧ Chg b2 H H' := by
  cases e : inn w h x y with
  | false =>
    refine ⟨H, fun R K => ?_, B, .refl _ _⟩
    unfold cblk_Block_Touch cblk_Block_Touch_b
    rw [at_eq k B.r, e]
    simp only [cond_false, Option.isNone_none, cond_true, missing_eq B.r, Bool.false_eq_true, if_false]
  | true =>
    obtain ⟨H', q1, q2, q3⟩ := B.put (i := ix w x y) (j := 2) (ix_lt e) (by omega) (.bool on) { g (ix w x y) with t := on } rfl
    refine ⟨H', fun R K => ?_, q2, q3⟩
    unfold cblk_Block_Touch cblk_Block_Touch_b
    rw [at_eq k B.r, e]
    simp only [cond_true, Option.isNone_some, cond_false, hnil, hfad, q1, if_true]
theorem TouchR_eq (B : Blk H b1 b2 w h g) (x y : Int) (on : Bool) : ∃ H', (∀ (R : Type) (K : Int → Heap → Option R), R14_Block_Touch (some ⟨b1, 0, none⟩) x y on H K = K (if inn w h x y then 0 else 2) H') ∧ Blk H' b1 b2 w h (if inn w h x y then upd g (ix w x y) { g (ix w x y) with t := on } else g) ∧ Chg b2 H H' := by
  cases e : inn w h x y with
  | false =>
    refine ⟨H, fun R K => ?_, B, .refl _ _⟩
    unfold R14_Block_Touch R14_Block_Touch_b
    rw [error_eq B.r, e]; rfl
  | true =>
    obtain ⟨H', q1, q2, q3⟩ := B.put (i := ix w x y) (j := 2) (ix_lt e) (by omega) (.bool on) { g (ix w x y) with t := on } rfl
    refine ⟨H', fun R K => ?_, q2, q3⟩
    obtain ⟨l1, l2, l3⟩ := B.r.lds R
    have hlt := ix_lt e
    unfold R14_Block_Touch R14_Block_Touch_b
    rw [error_eq B.r, e]
    simp only [if_true, bne_self_eq_false, cond_false, hnil, hfad, Nat.zero_add, l1, l3, wrap_ix B.r.bw.2 B.r.bh.2 e, hidx]
    rw [if_pos ⟨by omega, by omega⟩]
    simp only [Int.toNat_natCast, Nat.mul_comm (ix w x y) 4, q1]
theorem Refine_eq (k : Nat) (B : Blk H b1 b2 w h g) (x y : Int) : ∃ H', (∀ (R : Type) (K : Int → Heap → Option R), cblk_Block_Refine k (some ⟨b1, 0, none⟩) x y H K = K (if inn w h x y then 0 else 2) H') ∧ Blk H' b1 b2 w h (if inn w h x y then upd g (ix w x y) { g (ix w x y) with r := true } else g) ∧ Chg b2 H H' := by
  cases e : inn w h x y with
  | false =>
    refine ⟨H, fun R K => ?_, B, .refl _ _⟩
    unfold cblk_Block_Refine cblk_Block_Refine_b
    rw [at_eq k B.r, e]
    simp only [cond_false, Option.isNone_none, cond_true, missing_eq B.r, Bool.false_eq_true, if_false]
  | true =>
    obtain ⟨H', q1, q2, q3⟩ := B.put (i := ix w x y) (j := 3) (ix_lt e) (by omega) (.bool true) { g (ix w x y) with r := true } rfl
    refine ⟨H', fun R K => ?_, q2, q3⟩
    unfold cblk_Block_Refine cblk_Block_Refine_b
    rw [at_eq k B.r, e]
    simp only [cond_true, Option.isNone_some, cond_false, hnil, hfad, q1, if_true]
theorem RefineR_eq (B : Blk H b1 b2 w h g) (x y : Int) : ∃ H', (∀ (R : Type) (K : Int → Heap → Option R), R14_Block_Refine (some ⟨b1, 0, none⟩) x y H K = K (if inn w h x y then 0 else 2) H') ∧ Blk H' b1 b2 w h (if inn w h x y then upd g (ix w x y) { g (ix w x y) with r := true } else g) ∧ Chg b2 H H' := by
  cases e : inn w h x y with
  | false =>
    refine ⟨H, fun R K => ?_, B, .refl _ _⟩
    unfold R14_Block_Refine R14_Block_Refine_b
    rw [error_eq B.r, e]; rfl
  | true =>
    obtain ⟨H', q1, q2, q3⟩ := B.put (i := ix w x y) (j := 3) (ix_lt e) (by omega) (.bool true) { g (ix w x y) with r := true } rfl
    refine ⟨H', fun R K => ?_, q2, q3⟩
    obtain ⟨l1, l2, l3⟩ := B.r.lds R
    have hlt := ix_lt e
    unfold R14_Block_Refine R14_Block_Refine_b
    rw [error_eq B.r, e]
    simp only [if_true, bne_self_eq_false, cond_false, hnil, hfad, Nat.zero_add, l1, l3, wrap_ix B.r.bw.2 B.r.bh.2 e, hidx]
    rw [if_pos ⟨by omega, by omega⟩]
    simp only [Int.toNat_natCast, Nat.mul_comm (ix w x y) 4, q1]
theorem do_eq (k : Nat) (B : Blk H b1 b2 w h g) (kind x y v : Int) : ∃ H', (∀ (R : Type) (K : Int → Heap → Option R), L_do k (some ⟨b1, 0, none⟩) kind x y v H K = K (opr w h g kind x y v).1 H') ∧ Blk H' b1 b2 w h (opr w h g kind x y v).2 ∧ Chg b2 H H' := by
  obtain ⟨p, H1, e1, hp, g1, g2, g3⟩ := hal_of H [.int .i64 kind, .int .i64 x, .int .i64 y, .int .i64 v]
  subst hp
  have B1 := B.keep g2
  have l : ∀ (R : Type), (∀ K : Int → Option R, ldI .i64 H1 (some ⟨H.length, 0, none⟩) K = K kind) ∧ (∀ K : Int → Option R, ldI .i64 H1 (some ⟨H.length, 1, none⟩) K = K x) ∧ (∀ K : Int → Option R, ldI .i64 H1 (some ⟨H.length, 2, none⟩) K = K y) ∧ (∀ K : Int → Option R, ldI .i64 H1 (some ⟨H.length, 3, none⟩) K = K v) := fun R =>
    ⟨fun K => ldI_of (by simp [pcell, g1.sees.cell]) rfl K, fun K => ldI_of (by simp [pcell, g1.sees.cell]) rfl K, fun K => ldI_of (by simp [pcell, g1.sees.cell]) rfl K, fun K => ldI_of (by simp [pcell, g1.sees.cell]) rfl K⟩
  by_cases k0 : kind = 0
  · subst k0
    obtain ⟨H', q1, q2, q3⟩ := Set_eq k B1 x y v
    refine ⟨H', fun R K => ?_, q2, q3.after g2⟩
    obtain ⟨l1, l2, l3, l4⟩ := l R
    unfold L_do L_do_b
    rw [e1]
    simp only [hfad, Nat.zero_add, l1, l2, l3, l4, beq_self_eq_true, cond_true, q1]
  · have d0 : (kind == 0) = false := by simpa using k0
    by_cases k1 : kind = 1
    · subst k1
      obtain ⟨H', q1, q2, q3⟩ := Mark_eq k B1 x y
      have ho : opr w h g 1 x y v = (if inn w h x y then 0 else 2, if inn w h x y then upd g (ix w x y) { g (ix w x y) with s := true } else g) := by unfold opr; cases inn w h x y <;> rfl
      rw [ho]
      refine ⟨H', fun R K => ?_, q2, q3.after g2⟩
      obtain ⟨l1, l2, l3, l4⟩ := l R
      unfold L_do L_do_b
      rw [e1]
      simp only [hfad, Nat.zero_add, l1, l2, l3, l4, d0, cond_false, beq_self_eq_true, cond_true, q1]
    · have d1 : (kind == 1) = false := by simpa using k1
      by_cases k2 : kind = 2
      · subst k2
        obtain ⟨H', q1, q2, q3⟩ := Touch_eq k B1 x y true
        have ho : opr w h g 2 x y v = (if inn w h x y then 0 else 2, if inn w h x y then upd g (ix w x y) { g (ix w x y) with t := true } else g) := by unfold opr; cases inn w h x y <;> rfl
        rw [ho]
        refine ⟨H', fun R K => ?_, q2, q3.after g2⟩
        obtain ⟨l1, l2, l3, l4⟩ := l R
        unfold L_do L_do_b
        rw [e1]
        simp only [hfad, Nat.zero_add, l1, l2, l3, l4, d0, d1, cond_false, beq_self_eq_true, cond_true, q1]
      · have d2 : (kind == 2) = false := by simpa using k2
        by_cases k3 : kind = 3
        · subst k3
          obtain ⟨H', q1, q2, q3⟩ := Touch_eq k B1 x y false
          have ho : opr w h g 3 x y v = (if inn w h x y then 0 else 2, if inn w h x y then upd g (ix w x y) { g (ix w x y) with t := false } else g) := by unfold opr; cases inn w h x y <;> rfl
          rw [ho]
          refine ⟨H', fun R K => ?_, q2, q3.after g2⟩
          obtain ⟨l1, l2, l3, l4⟩ := l R
          unfold L_do L_do_b
          rw [e1]
          simp only [hfad, Nat.zero_add, l1, l2, l3, l4, d0, d1, d2, cond_false, beq_self_eq_true, cond_true, q1]
        · have d3 : (kind == 3) = false := by simpa using k3
          obtain ⟨H', q1, q2, q3⟩ := Refine_eq k B1 x y
          have ho : opr w h g kind x y v = (if inn w h x y then 0 else 2, if inn w h x y then upd g (ix w x y) { g (ix w x y) with r := true } else g) := by
            unfold opr
            rw [if_neg k0, if_neg k1, if_neg k2, if_neg k3]
            cases inn w h x y <;> rfl
          rw [ho]
          refine ⟨H', fun R K => ?_, q2, q3.after g2⟩
          obtain ⟨l1, l2, l3, l4⟩ := l R
          unfold L_do L_do_b
          rw [e1]
          simp only [hfad, Nat.zero_add, l1, l2, l3, l4, d0, d1, d2, d3, cond_false, cond_true, q1]
theorem want_eq (k : Nat) (B : Blk H b1 b2 w h g) (kind x y v : Int) : ∃ H', (∀ (R : Type) (K : Int → Heap → Option R), L_want k (some ⟨b1, 0, none⟩) kind x y v H K = K (opr w h g kind x y v).1 H') ∧ Blk H' b1 b2 w h (opr w h g kind x y v).2 ∧ Chg b2 H H' := by
  obtain ⟨p, H1, e1, hp, g1, g2, g3⟩ := hal_of H [.int .i64 kind, .int .i64 x, .int .i64 y, .int .i64 v]
  subst hp
  have B1 := B.keep g2
  have l : ∀ (R : Type), (∀ K : Int → Option R, ldI .i64 H1 (some ⟨H.length, 0, none⟩) K = K kind) ∧ (∀ K : Int → Option R, ldI .i64 H1 (some ⟨H.length, 1, none⟩) K = K x) ∧ (∀ K : Int → Option R, ldI .i64 H1 (some ⟨H.length, 2, none⟩) K = K y) ∧ (∀ K : Int → Option R, ldI .i64 H1 (some ⟨H.length, 3, none⟩) K = K v) := fun R =>
    ⟨fun K => ldI_of (by simp [pcell, g1.sees.cell]) rfl K, fun K => ldI_of (by simp [pcell, g1.sees.cell]) rfl K, fun K => ldI_of (by simp [pcell, g1.sees.cell]) rfl K, fun K => ldI_of (by simp [pcell, g1.sees.cell]) rfl K⟩
  by_cases k0 : kind = 0
  · subst k0
    obtain ⟨H', q1, q2, q3⟩ := SetR_eq k B1 x y v
    refine ⟨H', fun R K => ?_, q2, q3.after g2⟩
    obtain ⟨l1, l2, l3, l4⟩ := l R
    unfold L_want L_want_b
    rw [e1]
    simp only [hfad, Nat.zero_add, l1, l2, l3, l4, beq_self_eq_true, cond_true, q1]
  · have d0 : (kind == 0) = false := by simpa using k0
    by_cases k1 : kind = 1
    · subst k1
      obtain ⟨H', q1, q2, q3⟩ := MarkR_eq B1 x y
      have ho : opr w h g 1 x y v = (if inn w h x y then 0 else 2, if inn w h x y then upd g (ix w x y) { g (ix w x y) with s := true } else g) := by unfold opr; cases inn w h x y <;> rfl
      rw [ho]
      refine ⟨H', fun R K => ?_, q2, q3.after g2⟩
      obtain ⟨l1, l2, l3, l4⟩ := l R
      unfold L_want L_want_b
      rw [e1]
      simp only [hfad, Nat.zero_add, l1, l2, l3, l4, d0, cond_false, beq_self_eq_true, cond_true, q1]
    · have d1 : (kind == 1) = false := by simpa using k1
      by_cases k2 : kind = 2
      · subst k2
        obtain ⟨H', q1, q2, q3⟩ := TouchR_eq B1 x y true
        have ho : opr w h g 2 x y v = (if inn w h x y then 0 else 2, if inn w h x y then upd g (ix w x y) { g (ix w x y) with t := true } else g) := by unfold opr; cases inn w h x y <;> rfl
        rw [ho]
        refine ⟨H', fun R K => ?_, q2, q3.after g2⟩
        obtain ⟨l1, l2, l3, l4⟩ := l R
        unfold L_want L_want_b
        rw [e1]
        simp only [hfad, Nat.zero_add, l1, l2, l3, l4, d0, d1, cond_false, beq_self_eq_true, cond_true, q1]
      · have d2 : (kind == 2) = false := by simpa using k2
        by_cases k3 : kind = 3
        · subst k3
          obtain ⟨H', q1, q2, q3⟩ := TouchR_eq B1 x y false
          have ho : opr w h g 3 x y v = (if inn w h x y then 0 else 2, if inn w h x y then upd g (ix w x y) { g (ix w x y) with t := false } else g) := by unfold opr; cases inn w h x y <;> rfl
          rw [ho]
          refine ⟨H', fun R K => ?_, q2, q3.after g2⟩
          obtain ⟨l1, l2, l3, l4⟩ := l R
          unfold L_want L_want_b
          rw [e1]
          simp only [hfad, Nat.zero_add, l1, l2, l3, l4, d0, d1, d2, cond_false, beq_self_eq_true, cond_true, q1]
        · have d3 : (kind == 3) = false := by simpa using k3
          obtain ⟨H', q1, q2, q3⟩ := RefineR_eq B1 x y
          have ho : opr w h g kind x y v = (if inn w h x y then 0 else 2, if inn w h x y then upd g (ix w x y) { g (ix w x y) with r := true } else g) := by
            unfold opr
            rw [if_neg k0, if_neg k1, if_neg k2, if_neg k3]
            cases inn w h x y <;> rfl
          rw [ho]
          refine ⟨H', fun R K => ?_, q2, q3.after g2⟩
          obtain ⟨l1, l2, l3, l4⟩ := l R
          unfold L_want L_want_b
          rw [e1]
          simp only [hfad, Nat.zero_add, l1, l2, l3, l4, d0, d1, d2, d3, cond_false, cond_true, q1]
end
end Go.Proofs.Ytblpaolcgkjcgaa.Sh
