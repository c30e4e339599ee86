/- What Interval and Reconstruct come to, and that the reference's come to the same (plain numbers). -/
import Derived.Test.YtloncbnceccbaaaQx7
import Derived.Test.YtloncbnceccbaaaUnscale
namespace Go.Proofs.Ytloncbnceccbaaa.Arith
open Go.RowKit Go.Proofs.Ytloncbnceccbaaa.Q Go.Proofs.Ytloncbnceccbaaa.Arith Go.Proofs.YtloncbnceccbaaaW.PrintWords Go.Proofs.YtloncbnceccbaaaW.PrintLast Go.Proofs.YtloncbnceccbaaaW.PrintMore
theorem pow60 {s : Int} (h0 : 0 ≤ s) (h1 : s ≤ 60) : 1 ≤ (2 : Int) ^ s.toNat ∧ (2 : Int) ^ s.toNat ≤ 1152921504606846976 := by
  have : ∀ i : Fin 61, 1 ≤ (2 : Int) ^ i.val ∧ (2 : Int) ^ i.val ≤ 1152921504606846976 := by decide +kernel
  exact this ⟨s.toNat, by omega⟩
theorem shl_one60 {s : Int} (h0 : 0 ≤ s) (h1 : s ≤ 60) : shl .i64 1 s = 2 ^ s.toNat := by
  have := pow60 h0 h1
  unfold shl
  rw [i64w, Nat.min_eq_left (by simp [IntKind.bits]; omega), Int.one_mul, wid (by omega) (by omega)]
theorem limit3_f {a lo hi : Int} : quant_limit_int.f a lo hi = some (mn (mx a lo) hi) := rfl
theorem times_f {a b : Int} (ha : 0 ≤ a) (hb : 1 ≤ b) : quant_times.f a b = some (mn (a * b) 1152921504606846976) := by
  unfold quant_times.f
  have q := quot_bounds (x := 1152921504606846976) (s := b) (by decide) hb
  rw [if_pos (show b > 0 by omega), if_neg (show ¬ b = 0 by omega), wid (x := 1152921504606846976 / b) (by omega) (by omega)]
  by_cases h : a > 1152921504606846976 / b
  · rw [if_pos h]
    have h1 : (1152921504606846976 / b + 1) * b ≤ a * b := Int.mul_le_mul_of_nonneg_right (by omega) (by omega)
    have h2 : 1152921504606846976 < (1152921504606846976 / b + 1) * b := Int.lt_ediv_add_one_mul_self _ (by omega)
    unfold mn
    rw [if_pos (by omega)]
  · rw [if_neg h]
    have h1 : a * b ≤ 1152921504606846976 := Int.mul_le_of_le_ediv (by omega) (by omega)
    have h2 : 0 ≤ a * b := Int.mul_nonneg ha (by omega)
    rw [limit3_f, Option.bind_some, wid (x := a * b) (by omega) (by omega)]
    unfold mn mx
    rw [if_neg (show ¬ a * b < 0 by omega), if_neg (show ¬ 1152921504606846976 < a * b by omega)]
theorem ref_times_f {a b : Int} (ha : 0 ≤ a) (hb : 1 ≤ b) : waveletref08_times.f a b = some (mn (a * b) 1125899906842624) := by
  unfold waveletref08_times.f
  have q := quot_bounds (x := 1125899906842624) (s := b) (by decide) hb
  rw [if_pos (show b > 0 by omega), floordiv_f (by decide) (by decide) hb, Option.bind_some]
  by_cases h : a > 1125899906842624 / b
  · rw [if_pos h]
    have h1 : (1125899906842624 / b + 1) * b ≤ a * b := Int.mul_le_mul_of_nonneg_right (by omega) (by omega)
    have h2 : 1125899906842624 < (1125899906842624 / b + 1) * b := Int.lt_ediv_add_one_mul_self _ (by omega)
    unfold mn
    rw [if_pos (by omega)]
  · rw [if_neg h]
    have h1 : a * b ≤ 1125899906842624 := Int.mul_le_of_le_ediv (by omega) (by omega)
    have h2 : 0 ≤ a * b := Int.mul_nonneg ha (by omega)
    rw [wid (x := a * b) (by omega) (by omega)]
    unfold mn
    rw [if_neg (by omega)]
/-- The saturated width of an interval. -/
def W60 (m s : Int) : Int := mn (2 ^ m.toNat * s) 1152921504606846976
def W50 (m s : Int) : Int := mn (2 ^ m.toNat * s) 1125899906842624
theorem W60_bounds {m s : Int} (hm : 0 ≤ m) (hm' : m ≤ 60) (hs : 1 ≤ s) (hs' : s ≤ 65536) : s ≤ W60 m s ∧ W60 m s ≤ 1152921504606846976 := by
  have := pow60 hm hm'
  have h : 1 * s ≤ 2 ^ m.toNat * s := Int.mul_le_mul_of_nonneg_right this.1 (by omega)
  unfold W60 mn
  generalize (2 : Int) ^ m.toNat * s = q at h
  by_cases c : 1152921504606846976 < q
  · rw [if_pos c]; omega
  · rw [if_neg c]; omega
def P60 (v s : Int) : Int := mn ((v - 1) * s) 1152921504606846976
theorem P60_bounds {v s : Int} (hv : 1 ≤ v) (hs : 1 ≤ s) : 0 ≤ P60 v s ∧ P60 v s ≤ 1152921504606846976 := by
  have h : 0 ≤ (v - 1) * s := Int.mul_nonneg (by omega) (by omega)
  unfold P60 mn
  generalize (v - 1) * s = q at h
  by_cases c : 1152921504606846976 < q
  · rw [if_pos c]; omega
  · rw [if_neg c]; omega
theorem ends_zero {m s d : Int} (h : Vd s d) (hm : 0 ≤ m) (hm' : m ≤ 60) : quant_ends.f 0 m s d = some (-(thr s d - 1 + W60 m s - s), thr s d - 1 + W60 m s - s) := by
  have hp := pow60 hm hm'
  have hw := W60_bounds hm hm' h.1 h.2.1
  have ht := thr_bounds h
  unfold quant_ends.f
  rw [threshold_f, Option.bind_some, if_pos h, if_pos hm, shl_one60 hm hm', times_f (by omega) h.1, Option.bind_some, if_pos rfl]
  show some (wrap64 (-wrap64 (wrap64 (wrap64 (thr s d - 1) + W60 m s) - s)), wrap64 (wrap64 (wrap64 (thr s d - 1) + W60 m s) - s)) = _
  have h1 := h.1
  have h2 := h.2.1
  rw [wid (x := thr s d - 1) (by omega) (by omega), wid (x := thr s d - 1 + W60 m s) (by omega) (by omega), wid (x := thr s d - 1 + W60 m s - s) (by omega) (by omega), wid (by omega) (by omega)]
theorem ends_pos {v m s d : Int} (h : Vd s d) (hm : 0 ≤ m) (hm' : m ≤ 60) (hv : 1 ≤ v) (hv' : v ≤ 9223372036854775807) : quant_ends.f v m s d = some (thr s d + P60 v s, thr s d + P60 v s + W60 m s - 1) := by
  have hp := pow60 hm hm'
  have hw := W60_bounds hm hm' h.1 h.2.1
  have hq := P60_bounds hv h.1
  have ht := thr_bounds h
  unfold quant_ends.f
  rw [threshold_f, Option.bind_some, if_pos h, if_pos hm, shl_one60 hm hm', times_f (by omega) h.1, Option.bind_some, if_neg (show ¬ v = 0 by omega), wid (x := v - 1) (by omega) (by omega), times_f (by omega) h.1, Option.bind_some]
  show some (wrap64 (thr s d + P60 v s), wrap64 (wrap64 (wrap64 (thr s d + P60 v s) + W60 m s) - 1)) = _
  have h1 := h.1
  have h2 := h.2.1
  rw [wid (x := thr s d + P60 v s) (by omega) (by omega), wid (x := thr s d + P60 v s + W60 m s) (by omega) (by omega), wid (by omega) (by omega)]
/-- The absolute value, or the greatest number. -/
def sz (v : Int) : Int := if v = -9223372036854775808 then 9223372036854775807 else mx v (-v)
theorem size_f {v : Int} (h0 : -9223372036854775808 ≤ v) (h1 : v ≤ 9223372036854775807) : quant_size.f v = some (sz v) := by
  unfold quant_size.f sz
  by_cases h : v = -9223372036854775808
  · rw [if_pos h, if_pos h]
  · rw [if_neg h, if_neg h, wid (x := -v) (by omega) (by omega)]
/-- The ends of the interval of an index that is not negative, not limited. -/
def En (v m s d : Int) : Int × Int := if v = 0 then (-(thr s d - 1 + W60 m s - s), thr s d - 1 + W60 m s - s) else (thr s d + P60 v s, thr s d + P60 v s + W60 m s - 1)
theorem ends_f {v m s d : Int} (h : Vd s d) (hm : 0 ≤ m) (hm' : m ≤ 60) (hv : 0 ≤ v) (hv' : v ≤ 9223372036854775807) : quant_ends.f v m s d = some (En v m s d) := by
  unfold En
  by_cases c : v = 0
  · subst c
    rw [if_pos rfl, ends_zero h hm hm']
  · rw [if_neg c, ends_pos h hm hm' (by omega) hv']
theorem En_bounds {v m s d : Int} (h : Vd s d) (hm : 0 ≤ m) (hm' : m ≤ 60) (hv : 0 ≤ v) : -2305843009213825024 ≤ (En v m s d).1 ∧ (En v m s d).1 ≤ (En v m s d).2 ∧ (En v m s d).2 ≤ 2305843009213825024 ∧ 0 ≤ (En v m s d).1 + (En v m s d).2 := by
  have hw := W60_bounds hm hm' h.1 h.2.1
  have ht := thr_bounds h
  have h1 := h.1
  have h2 := h.2.1
  unfold En
  by_cases c : v = 0
  · rw [if_pos c]
    simp only
    omega
  · rw [if_neg c]
    have hq := P60_bounds (v := v) (s := s) (by omega) h1
    simp only
    omega
def V60 (m s d : Int) : Prop := Vd s d ∧ 0 ≤ m ∧ m ≤ 60
instance (m s d : Int) : Decidable (V60 m s d) := by unfold V60; infer_instance
theorem good_f (m s d : Int) : quant_good.f m s d = some (decide (V60 m s d)) := by
  unfold quant_good.f
  rw [valid_f, Option.bind_some]
  by_cases h : Vd s d
  · rw [decide_eq_true h, if_pos rfl]
    by_cases h1 : m ≥ 0
    · rw [if_pos h1]
      congr 1
      exact decide_eq_decide.2 ⟨fun k => ⟨h, h1, k⟩, fun k => k.2.2⟩
    · rw [if_neg h1, decide_eq_false (fun k : V60 m s d => h1 k.2.1)]
  · rw [decide_eq_false h, if_neg (by decide), decide_eq_false (fun k : V60 m s d => h k.1)]
theorem ref_valid3_f (m s d : Int) : waveletref08_valid.f m s d = some (decide (V60 m s d)) := by
  rw [← good_f]
  unfold waveletref08_valid.f quant_good.f
  rw [ref_valid_f, valid_f]
/-- The interval. -/
def Iv (v m s d : Int) : Int × Int :=
  if V60 m s d then
    (if v < 0 then (clamp (-(En (sz v) m s d).2) 281474976710656, clamp (-(En (sz v) m s d).1) 281474976710656) else (clamp (En v m s d).1 281474976710656, clamp (En v m s d).2 281474976710656))
  else (0, 0)
theorem sz_nonneg {v : Int} (h : 0 ≤ v) : sz v = v := by
  unfold sz mx
  rw [if_neg (by omega)]
  split <;> omega
theorem sz_neg {v : Int} (h : v < 0) (h' : -9223372036854775808 ≤ v) : 1 ≤ sz v ∧ sz v ≤ 9223372036854775807 ∧ (v ≠ -9223372036854775808 → sz v = -v) := by
  unfold sz mx
  by_cases c : v = -9223372036854775808
  · rw [if_pos c]
    exact ⟨by decide, by decide, fun k => absurd c k⟩
  · rw [if_neg c, if_pos (by omega)]
    omega
theorem interval_f {v m s d : Int} (h0 : -9223372036854775808 ≤ v) (h1 : v ≤ 9223372036854775807) : quant_Interval.f v m s d = some (Iv v m s d) := by
  unfold quant_Interval.f Iv
  rw [good_f, Option.bind_some]
  by_cases h : V60 m s d
  · rw [decide_eq_true h, if_pos rfl, if_pos h, size_f h0 h1, Option.bind_some]
    by_cases c : v < 0
    · have z := sz_neg c h0
      rw [ends_f h.1 h.2.1 h.2.2 (by omega) z.2.1, Option.bind_some, if_pos c, if_pos c]
      have b := En_bounds (v := sz v) h.1 h.2.1 h.2.2 (by omega)
      rw [wid (x := -(En (sz v) m s d).2) (by omega) (by omega), wid (x := -(En (sz v) m s d).1) (by omega) (by omega)]
      rfl
    · rw [sz_nonneg (by omega), ends_f h.1 h.2.1 h.2.2 (by omega) h1, Option.bind_some, if_neg c, if_neg c]
      rfl
  · rw [decide_eq_false h, if_neg (by decide), if_neg h]
/-- The coefficient that stands for an index. -/
def Rc (v m s d : Int) : Int :=
  if v = 0 then 0 else if V60 m s d then
    (if v < 0 then -(mn (mx (((En (sz v) m s d).1 + (En (sz v) m s d).2) / 2) 0) 4294967296) else mn (mx (((En v m s d).1 + (En v m s d).2) / 2) 0) 4294967296)
  else 0
theorem reconstruct_f (k : Nat) {v m s d : Int} (h0 : -9223372036854775808 ≤ v) (h1 : v ≤ 9223372036854775807) : quant_Reconstruct.f (k + 1) v m s d = some (Rc v m s d) := by
  unfold quant_Reconstruct.f Rc
  by_cases z : v = 0
  · rw [if_pos z, if_pos z]
    simp [quant_Reconstruct.j0]
  · rw [if_neg z, if_neg z, good_f, Option.bind_some]
    by_cases h : V60 m s d
    · rw [decide_eq_true h, if_pos h]
      simp only [quant_Reconstruct.j0, Bool.not_true]
      rw [if_neg (by decide), size_f h0 h1, Option.bind_some]
      by_cases c : v < 0
      · have zz := sz_neg c h0
        rw [ends_f h.1 h.2.1 h.2.2 (by omega) zz.2.1, Option.bind_some]
        have b := En_bounds (v := sz v) h.1 h.2.1 h.2.2 (by omega)
        generalize En (sz v) m s d = e at b
        rw [wid (x := e.1 + e.2) (by omega) (by omega), Int.tdiv_eq_ediv_of_nonneg (by omega), wid (x := (e.1 + e.2) / 2) (by omega) (by omega), limit3_f, Option.bind_some, if_pos c, if_pos c]
        have : 0 ≤ mn (mx ((e.1 + e.2) / 2) 0) 4294967296 ∧ mn (mx ((e.1 + e.2) / 2) 0) 4294967296 ≤ 4294967296 := by unfold mn mx; omega
        rw [wid (by omega) (by omega)]
      · rw [sz_nonneg (by omega), ends_f h.1 h.2.1 h.2.2 (by omega) h1, Option.bind_some]
        have b := En_bounds (v := v) h.1 h.2.1 h.2.2 (by omega)
        generalize En v m s d = e at b
        rw [wid (x := e.1 + e.2) (by omega) (by omega), Int.tdiv_eq_ediv_of_nonneg (by omega), wid (x := (e.1 + e.2) / 2) (by omega) (by omega), limit3_f, Option.bind_some, if_neg c, if_neg c]
    · rw [decide_eq_false h, if_neg h]
      simp [quant_Reconstruct.j0]
/-! ### the reference's -/
theorem pow_step (m : Nat) : (2 : Int) ^ (m + 1) = 2 * 2 ^ m := by rw [Int.pow_succ, Int.mul_comm]
theorem span_l {m s : Int} (hm : 0 ≤ m) (hm' : m ≤ 60) (hs : 1 ≤ s) (hs' : s ≤ 65536) :
    ∀ (j i : Nat), i + j = m.toNat → waveletref08_span.l0 (j + 1) m (mn (2 ^ i * s) 1125899906842624) (i : Int) = some (W50 m s) := by
  intro j
  induction j with
  | zero =>
    intro i hi
    obtain rfl : i = m.toNat := by omega
    simp only [waveletref08_span.l0]
    rw [if_neg (show ¬ ((m.toNat : Nat) : Int) < m by omega)]
    rfl
  | succ j ih =>
    intro i hi
    rw [waveletref08_span.l0, if_pos (show (i : Int) < m by omega)]
    have hp := pow60 (s := (i : Int)) (by omega) (by omega)
    rw [Int.toNat_natCast] at hp
    have h1 : 1 * s ≤ 2 ^ i * s := Int.mul_le_mul_of_nonneg_right hp.1 (by omega)
    have e : 2 ^ (i + 1) * s = (2 ^ i * s) * 2 := by rw [pow_step, Int.mul_comm 2, Int.mul_assoc, Int.mul_comm 2, ← Int.mul_assoc]
    have hx : ∃ x, mn (2 ^ i * s) 1125899906842624 = x ∧ 0 ≤ x ∧ x ≤ 1125899906842624 ∧ mn (x * 2) 1125899906842624 = mn (2 ^ (i + 1) * s) 1125899906842624 := by
      rw [e]
      generalize 2 ^ i * s = q at h1
      refine ⟨_, rfl, ?_⟩
      unfold mn
      by_cases c : 1125899906842624 < q
      · rw [if_pos c, if_pos (by omega), if_pos (by omega)]; omega
      · rw [if_neg c]
        refine ⟨by omega, by omega, rfl⟩
    obtain ⟨x, hx0, hx1, hx2, hx3⟩ := hx
    rw [hx0, ref_times_f hx1 (by decide), Option.bind_some, hx3, wid (x := (i : Int) + 1) (by omega) (by omega)]
    exact ih (i + 1) (by omega)
theorem span_f {m s : Int} (hm : 0 ≤ m) (hm' : m ≤ 60) (hs : 1 ≤ s) (hs' : s ≤ 65536) : waveletref08_span.f 70 m s = some (W50 m s) := by
  have h := span_l hm hm' hs hs' m.toNat 0 (by omega)
  have e : mn (2 ^ 0 * s) 1125899906842624 = s := by unfold mn; simp; omega
  rw [e] at h
  exact at_rounds (g := fun k => waveletref08_span.f k m s) (waveletref08_span.mono _ _) (k := m.toNat + 1) (k' := 70) (by omega) h
def P50 (v s : Int) : Int := mn ((v - 1) * s) 1125899906842624
theorem ref_ends_f {v m s d : Int} (h : Vd s d) (hm : 0 ≤ m) (hm' : m ≤ 60) (hv : 1 ≤ v) (hv' : v ≤ 1125899906842624) : waveletref08_ends.f 70 v m s d = some (thr s d + P50 v s, thr s d + P50 v s + W50 m s - 1) := by
  unfold waveletref08_ends.f
  have ht := thr_bounds h
  rw [ref_threshold_f, Option.bind_some, if_pos h, wid (x := v - 1) (by omega) (by omega), ref_times_f (by omega) h.1, Option.bind_some, span_f hm hm' h.1 h.2.1, Option.bind_some]
  show some (wrap64 (thr s d + P50 v s), wrap64 (wrap64 (wrap64 (thr s d + P50 v s) + W50 m s) - 1)) = _
  have hq : 0 ≤ P50 v s ∧ P50 v s ≤ 1125899906842624 := by
    have h1 : 0 ≤ (v - 1) * s := Int.mul_nonneg (by omega) (by have := h.1; omega)
    unfold P50 mn
    split <;> omega
  have hw : 0 ≤ W50 m s ∧ W50 m s ≤ 1125899906842624 := by
    have h1 : 0 ≤ 2 ^ m.toNat * s := Int.mul_nonneg (by have := pow60 hm hm'; omega) (by have := h.1; omega)
    unfold W50 mn
    split <;> omega
  rw [wid (x := thr s d + P50 v s) (by omega) (by omega), wid (x := thr s d + P50 v s + W50 m s) (by omega) (by omega), wid (by omega) (by omega)]
theorem ref_ends_ge {k : Nat} (hk : 70 ≤ k) {v m s d : Int} (h : Vd s d) (hm : 0 ≤ m) (hm' : m ≤ 60) (hv : 1 ≤ v) (hv' : v ≤ 1125899906842624) : waveletref08_ends.f k v m s d = some (thr s d + P50 v s, thr s d + P50 v s + W50 m s - 1) :=
  at_rounds (g := fun k => waveletref08_ends.f k v m s d) (waveletref08_ends.mono _ _ _ _) hk (ref_ends_f h hm hm' hv hv')
theorem span_ge {k : Nat} (hk : 70 ≤ k) {m s : Int} (hm : 0 ≤ m) (hm' : m ≤ 60) (hs : 1 ≤ s) (hs' : s ≤ 65536) : waveletref08_span.f k m s = some (W50 m s) :=
  at_rounds (g := fun k => waveletref08_span.f k m s) (waveletref08_span.mono _ _) hk (span_f hm hm' hs hs')
theorem mul_ge {a b : Int} (ha : 0 ≤ a) (hb : 1 ≤ b) : a ≤ a * b := by
  have := Int.mul_le_mul_of_nonneg_left hb ha
  omega
/-- Limited, the saturations are not seen. -/
theorem same_low {v s t : Int} (hv : 1 ≤ v) (hs : 1 ≤ s) (ht : 1 ≤ t) : clamp (t + P60 v s) 281474976710656 = clamp (t + P50 (mn v 1125899906842624) s) 281474976710656 := by
  by_cases c : v ≤ 1125899906842624
  · have e : mn v 1125899906842624 = v := by unfold mn; rw [if_neg (by omega)]
    rw [e]
    unfold P60 P50
    have h0 : 0 ≤ (v - 1) * s := Int.mul_nonneg (by omega) (by omega)
    generalize (v - 1) * s = p at h0
    unfold clamp mn mx
    omega
  · have e : mn v 1125899906842624 = 1125899906842624 := by unfold mn; rw [if_pos (by omega)]
    rw [e]
    unfold P60 P50
    have h0 := mul_ge (a := v - 1) (b := s) (by omega) hs
    have h1 := mul_ge (a := 1125899906842624 - 1) (b := s) (by omega) hs
    generalize (v - 1) * s = p at h0
    generalize (1125899906842624 - 1) * s = q at h1
    unfold clamp mn mx
    omega
theorem same_high {v m s t : Int} (hv : 1 ≤ v) (hs : 1 ≤ s) (hm : 0 ≤ m) (hm' : m ≤ 60) (ht : 1 ≤ t) : clamp (t + P60 v s + W60 m s - 1) 281474976710656 = clamp (t + P50 (mn v 1125899906842624) s + W50 m s - 1) 281474976710656 := by
  have hp := pow60 hm hm'
  unfold W60 W50
  have hw : 0 ≤ 2 ^ m.toNat * s := Int.mul_nonneg (by omega) (by omega)
  generalize 2 ^ m.toNat * s = w at hw
  by_cases c : v ≤ 1125899906842624
  · have e : mn v 1125899906842624 = v := by unfold mn; rw [if_neg (by omega)]
    rw [e]
    unfold P60 P50
    have h0 : 0 ≤ (v - 1) * s := Int.mul_nonneg (by omega) (by omega)
    generalize (v - 1) * s = p at h0
    unfold clamp mn mx
    omega
  · have e : mn v 1125899906842624 = 1125899906842624 := by unfold mn; rw [if_pos (by omega)]
    rw [e]
    unfold P60 P50
    have h0 := mul_ge (a := v - 1) (b := s) (by omega) hs
    have h1 := mul_ge (a := 1125899906842624 - 1) (b := s) (by omega) hs
    generalize (v - 1) * s = p at h0
    generalize (1125899906842624 - 1) * s = q at h1
    unfold clamp mn mx
    omega
theorem same_zero {m s t : Int} (hs : 1 ≤ s) (hs' : s ≤ 65536) (hm : 0 ≤ m) (hm' : m ≤ 60) (ht : 1 ≤ t) : clamp (t - 1 + W60 m s - s) 281474976710656 = clamp (t - 1 + W50 m s - s) 281474976710656 := by
  have hp := pow60 hm hm'
  unfold W60 W50
  have hw : 0 ≤ 2 ^ m.toNat * s := Int.mul_nonneg (by omega) (by omega)
  generalize 2 ^ m.toNat * s = w at hw
  unfold clamp mn mx
  omega
theorem same_mid {v m s t : Int} (hv : 1 ≤ v) (hs : 1 ≤ s) (hm : 0 ≤ m) (hm' : m ≤ 60) (ht : 1 ≤ t) :
    mn (mx ((t + P60 v s + (t + P60 v s + W60 m s - 1)) / 2) 0) 4294967296 = clamp ((t + P50 (mn v 1125899906842624) s + (t + P50 (mn v 1125899906842624) s + W50 m s - 1)) / 2) 4294967296 := by
  have hp := pow60 hm hm'
  unfold W60 W50
  have hw := mul_ge (a := s) (b := 2 ^ m.toNat) (by omega) hp.1
  rw [Int.mul_comm] at hw
  generalize 2 ^ m.toNat * s = w at hw
  by_cases c : v ≤ 1125899906842624
  · have e : mn v 1125899906842624 = v := by unfold mn; rw [if_neg (by omega)]
    rw [e]
    unfold P60 P50
    have h0 : 0 ≤ (v - 1) * s := Int.mul_nonneg (by omega) (by omega)
    generalize (v - 1) * s = p at h0
    unfold clamp mn mx
    omega
  · have e : mn v 1125899906842624 = 1125899906842624 := by unfold mn; rw [if_pos (by omega)]
    rw [e]
    unfold P60 P50
    have h0 := mul_ge (a := v - 1) (b := s) (by omega) hs
    have h1 := mul_ge (a := 1125899906842624 - 1) (b := s) (by omega) hs
    generalize (v - 1) * s = p at h0
    generalize (1125899906842624 - 1) * s = q at h1
    unfold clamp mn mx
    omega
theorem W50_bounds {m s : Int} (hm : 0 ≤ m) (hm' : m ≤ 60) (hs : 1 ≤ s) (hs' : s ≤ 65536) : s ≤ W50 m s ∧ W50 m s ≤ 1125899906842624 := by
  have := pow60 hm hm'
  have h : 1 * s ≤ 2 ^ m.toNat * s := Int.mul_le_mul_of_nonneg_right this.1 (by omega)
  unfold W50 mn
  generalize (2 : Int) ^ m.toNat * s = q at h
  by_cases c : 1125899906842624 < q
  · rw [if_pos c]; omega
  · rw [if_neg c]; omega
theorem P50_bounds {v s : Int} (hv : 1 ≤ v) (hs : 1 ≤ s) : 0 ≤ P50 v s ∧ P50 v s ≤ 1125899906842624 := by
  have h : 0 ≤ (v - 1) * s := Int.mul_nonneg (by omega) (by omega)
  unfold P50 mn
  generalize (v - 1) * s = q at h
  by_cases c : 1125899906842624 < q
  · rw [if_pos c]; omega
  · rw [if_neg c]; omega
theorem clamp_vals {v : Int} (h0 : -9223372036854775808 ≤ v) (h1 : v ≤ 9223372036854775807) :
    (v = 0 → clamp v 1125899906842624 = 0) ∧ (v < 0 → clamp v 1125899906842624 = -(mn (sz v) 1125899906842624)) ∧ (0 < v → clamp v 1125899906842624 = mn v 1125899906842624) := by
  unfold clamp sz mn mx
  omega
theorem mn50 {v : Int} (h : 1 ≤ v) : 1 ≤ mn v 1125899906842624 ∧ mn v 1125899906842624 ≤ 1125899906842624 := by unfold mn; omega
theorem ref_interval_f {k : Nat} (hk : 70 ≤ k) {v m s d : Int} (h0 : -9223372036854775808 ≤ v) (h1 : v ≤ 9223372036854775807) : waveletref08_Interval.f k v m s d = some (Iv v m s d) := by
  unfold waveletref08_Interval.f Iv
  rw [ref_valid3_f, Option.bind_some]
  by_cases h : V60 m s d
  · obtain ⟨hv, hm, hm'⟩ := h
    have h := hv
    have ht := thr_bounds hv
    have hs := hv.1
    have hs' := hv.2.1
    have hc := clamp_vals h0 h1
    have w5 := W50_bounds hm hm' hs hs'
    have w6 := W60_bounds hm hm' hs hs'
    rw [decide_eq_true (show V60 m s d from ⟨hv, hm, hm'⟩), if_pos rfl, if_pos (show V60 m s d from ⟨hv, hm, hm'⟩), ref_limit_f (by decide) (by decide), Option.bind_some]
    rcases Int.lt_trichotomy v 0 with c | c | c
    · have z := sz_neg c h0
      have q := mn50 z.1
      have p5 := P50_bounds (s := s) q.1 hs
      rw [hc.2.1 c, if_neg (by omega), if_pos (by omega), wid (x := - -mn (sz v) 1125899906842624) (by omega) (by omega), Int.neg_neg, ref_ends_ge hk hv hm hm' q.1 q.2, Option.bind_some, ref_limit_f (by decide) (by decide), Option.bind_some, ref_limit_f (by decide) (by decide), Option.bind_some, if_pos c]
      unfold En
      rw [if_neg (show ¬ sz v = 0 by omega)]
      simp only
      rw [clamp_neg _ (by decide), clamp_neg _ (by decide), same_high z.1 hs hm hm' ht.1, same_low z.1 hs ht.1]
      have b1 := clamp_bounds (thr s d + P50 (mn (sz v) 1125899906842624) s + W50 m s - 1) (m := 281474976710656) (by decide)
      have b2 := clamp_bounds (thr s d + P50 (mn (sz v) 1125899906842624) s) (m := 281474976710656) (by decide)
      rw [wid (by omega) (by omega), wid (by omega) (by omega)]
    · subst c
      rw [hc.1 rfl, if_pos rfl, ref_threshold_f, Option.bind_some, if_pos hv, span_ge hk hm hm' hs hs', Option.bind_some]
      rw [wid (x := thr s d - 1) (by omega) (by omega), wid (x := thr s d - 1 + W50 m s) (by omega) (by omega), wid (x := thr s d - 1 + W50 m s - s) (by omega) (by omega), ref_limit_f (by decide) (by decide), Option.bind_some, if_neg (by decide)]
      unfold En
      rw [if_pos rfl]
      simp only
      rw [clamp_neg _ (by decide), same_zero hs hs' hm hm' ht.1]
      have b1 := clamp_bounds (thr s d - 1 + W50 m s - s) (m := 281474976710656) (by decide)
      rw [wid (by omega) (by omega)]
    · have q := mn50 (v := v) c
      have p5 := P50_bounds (s := s) q.1 hs
      rw [hc.2.2 c, if_neg (by omega), if_neg (by omega), ref_ends_ge hk hv hm hm' q.1 q.2, Option.bind_some, ref_limit_f (by decide) (by decide), Option.bind_some, ref_limit_f (by decide) (by decide), Option.bind_some, if_neg (by omega)]
      unfold En
      rw [if_neg (show ¬ v = 0 by omega)]
      simp only
      rw [same_high c hs hm hm' ht.1, same_low c hs ht.1]
  · rw [decide_eq_false h, if_neg (by decide), if_neg h]
theorem ref_reconstruct_pos {k : Nat} (hk : 70 ≤ k) {v m s d : Int} (hv : 1 ≤ v) (hv' : v ≤ 1125899906842624) : waveletref08_Reconstruct.f (k + 2) v m s d = some (if V60 m s d then clamp ((thr s d + P50 v s + (thr s d + P50 v s + W50 m s - 1)) / 2) 4294967296 else 0) := by
  rw [waveletref08_Reconstruct.f, ref_valid3_f, Option.bind_some]
  by_cases h : V60 m s d
  · obtain ⟨hvd, hm, hm'⟩ := h
    have ht := thr_bounds hvd
    have w5 := W50_bounds hm hm' hvd.1 hvd.2.1
    have p5 := P50_bounds (s := s) hv hvd.1
    have hs := hvd.1
    rw [decide_eq_true (show V60 m s d from ⟨hvd, hm, hm'⟩), if_pos rfl, if_pos (show V60 m s d from ⟨hvd, hm, hm'⟩), waveletref08_Reconstruct.j0]
    rw [if_neg (by simp; omega), ref_limit_f (by decide) (by decide), Option.bind_some, clamp_id (by omega) hv', if_neg (by omega), ref_ends_ge hk hvd hm hm' hv hv', Option.bind_some]
    rw [wid (x := thr s d + P50 v s + (thr s d + P50 v s + W50 m s - 1)) (by omega) (by omega), floordiv_f (by omega) (by omega) (by decide), Option.bind_some, ref_limit_f (by decide) (by decide), Option.bind_some]
  · rw [decide_eq_false h, if_neg (by decide), if_neg h, waveletref08_Reconstruct.j0, if_pos rfl]
theorem ref_reconstruct_f {k : Nat} (hk : 70 ≤ k) {v m s d : Int} (h0 : -9223372036854775808 ≤ v) (h1 : v ≤ 9223372036854775807) : waveletref08_Reconstruct.f (k + 4) v m s d = some (Rc v m s d) := by
  unfold Rc
  have hc := clamp_vals h0 h1
  rcases Int.lt_trichotomy v 0 with c | c | c
  · have z := sz_neg c h0
    have q := mn50 z.1
    rw [if_neg (by omega), waveletref08_Reconstruct.f, ref_valid3_f, Option.bind_some]
    by_cases h : V60 m s d
    · rw [decide_eq_true h, if_pos rfl, if_pos h, waveletref08_Reconstruct.j0, if_neg (by simp; omega), ref_limit_f (by decide) (by decide), Option.bind_some, hc.2.1 c, if_pos (by omega), wid (x := - -mn (sz v) 1125899906842624) (by omega) (by omega), Int.neg_neg, ref_reconstruct_pos hk q.1 q.2, Option.bind_some, if_pos h, if_pos c]
      unfold En
      rw [if_neg (show ¬ sz v = 0 by omega)]
      simp only
      rw [same_mid z.1 h.1.1 h.2.1 h.2.2 (thr_bounds h.1).1]
      have b1 := clamp_bounds ((thr s d + P50 (mn (sz v) 1125899906842624) s + (thr s d + P50 (mn (sz v) 1125899906842624) s + W50 m s - 1)) / 2) (m := 4294967296) (by decide)
      rw [wid (by omega) (by omega)]
    · rw [decide_eq_false h, if_neg (by decide), if_neg h, waveletref08_Reconstruct.j0, if_pos rfl]
  · subst c
    rw [if_pos rfl, waveletref08_Reconstruct.f, ref_valid3_f, Option.bind_some]
    by_cases h : V60 m s d
    · rw [decide_eq_true h, if_pos rfl, waveletref08_Reconstruct.j0, if_pos (by decide)]
    · rw [decide_eq_false h, if_neg (by decide), waveletref08_Reconstruct.j0, if_pos rfl]
  · have q := mn50 (v := v) c
    rw [if_neg (by omega)]
    have e : waveletref08_Reconstruct.f (k + 4) v m s d = waveletref08_Reconstruct.f (k + 4) (mn v 1125899906842624) m s d := by
      have e0 : (v == 0) = false := by simp; omega
      have e1 : (mn v 1125899906842624 == 0) = false := by simp; omega
      rw [show k + 4 = (k + 3) + 1 from rfl, waveletref08_Reconstruct.f, waveletref08_Reconstruct.f, e0, e1]
      simp only [waveletref08_Reconstruct.j0]
      rw [ref_limit_f (c := v) (by decide) (by decide), ref_limit_f (c := mn v 1125899906842624) (by decide) (by decide), hc.2.2 c, clamp_id (c := mn v 1125899906842624) (by omega) (by omega)]
    rw [e, ref_reconstruct_pos (k := k + 2) (by omega) q.1 q.2]
    by_cases h : V60 m s d
    · rw [if_pos h, if_pos h, if_neg (by omega)]
      unfold En
      rw [if_neg (show ¬ v = 0 by omega)]
      simp only
      rw [same_mid c h.1.1 h.2.1 h.2.2 (thr_bounds h.1).1]
    · rw [if_neg h, if_neg h]
end Go.Proofs.Ytloncbnceccbaaa.Arith
