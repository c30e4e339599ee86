/- Closed forms of the quantizer's and of the reference's functions (plain numbers; no program in sight). -/
import Derived.Test.YtloncbnceccbaaaQx7
namespace Go.Proofs.Ytloncbnceccbaaa.Arith
open Go.RowKit Go.Proofs.Ytloncbnceccbaaa.Q Go.Proofs.YtloncbnceccbaaaW.PrintWords Go.Proofs.YtloncbnceccbaaaW.PrintLast Go.Proofs.YtloncbnceccbaaaW.PrintMore

theorem i64_bounds {a : Int} (h : (Lit.int .i64 a).wf = true) : -9223372036854775808 ≤ a ∧ a ≤ 9223372036854775807 := by
  simp only [Lit.wf, IntKind.min, IntKind.max, IntKind.signed, IntKind.bits, Bool.and_eq_true, decide_eq_true_eq, if_true] at h
  omega
theorem wid {x : Int} (h0 : -9223372036854775808 ≤ x) (h1 : x ≤ 9223372036854775807) : wrap64 x = x := by
  unfold wrap64
  omega

def Vd (s d : Int) : Prop := 1 ≤ s ∧ s ≤ 65536 ∧ 8 ≤ d ∧ d ≤ 32
instance (s d : Int) : Decidable (Vd s d) := by unfold Vd; infer_instance
def thr (s d : Int) : Int := mx 1 (s * d / 16)

theorem valid_f (s d : Int) : quant_Valid.f s d = some (decide (Vd s d)) := by
  unfold quant_Valid.f
  by_cases h1 : s ≥ 1
  · rw [if_pos h1]
    by_cases h2 : s ≤ 65536
    · rw [if_pos h2]
      by_cases h3 : d ≥ 8
      · rw [if_pos h3]
        congr 1
        exact decide_eq_decide.2 ⟨fun h => ⟨h1, h2, h3, h⟩, fun h => h.2.2.2⟩
      · rw [if_neg h3, decide_eq_false (fun h : Vd s d => h3 h.2.2.1)]
    · rw [if_neg h2, decide_eq_false (fun h : Vd s d => h2 h.2.1)]
  · rw [if_neg h1, decide_eq_false (fun h : Vd s d => h1 h.1)]
theorem ref_valid_f (s d : Int) : waveletref08_Valid.f s d = some (decide (Vd s d)) := by
  rw [← valid_f]
  rfl
theorem prod_bounds {s d : Int} (h : Vd s d) : 8 ≤ s * d ∧ s * d ≤ 2097152 := by
  obtain ⟨h1, h2, h3, h4⟩ := h
  have a : 1 * 8 ≤ s * d := Int.mul_le_mul h1 h3 (by decide) (by omega)
  have b : s * d ≤ 65536 * 32 := Int.mul_le_mul h2 h4 (by omega) (by decide)
  omega
theorem thr_bounds {s d : Int} (h : Vd s d) : 1 ≤ thr s d ∧ thr s d ≤ 131072 := by
  have := prod_bounds h
  unfold thr mx
  omega
theorem thr_le {s d : Int} (h : Vd s d) : thr s d ≤ 2 * s := by
  obtain ⟨h1, h2, h3, h4⟩ := h
  have b : s * d ≤ s * 32 := Int.mul_le_mul_of_nonneg_left h4 (by omega)
  unfold thr mx
  omega
theorem threshold_f (s d : Int) : quant_Threshold.f s d = some (if Vd s d then thr s d else 0) := by
  unfold quant_Threshold.f
  rw [valid_f, Option.bind_some]
  by_cases h : Vd s d
  · rw [decide_eq_true h, if_pos rfl, if_pos h]
    have := prod_bounds h
    rw [wid (x := s * d) (by omega) (by omega), Int.tdiv_eq_ediv_of_nonneg (by omega), wid (by omega) (by omega)]
    rfl
  · rw [decide_eq_false h, if_neg (by decide), if_neg h]
theorem floordiv_f {a b : Int} (ha : 0 ≤ a) (ha' : a ≤ 9223372036854775807) (hb : 1 ≤ b) : waveletref01_FloorDiv.f a b = some (a / b) := by
  unfold waveletref01_FloorDiv.f
  have h0 : 0 ≤ a / b := Int.ediv_nonneg ha (by omega)
  have h1 : a / b ≤ a := Int.ediv_le_self _ ha
  have h2 : 0 ≤ Int.tmod a b := Int.tmod_nonneg _ ha
  rw [if_neg (by omega), if_neg (by omega), if_neg (by omega), Int.tdiv_eq_ediv_of_nonneg ha, wid (by omega) (by omega)]
theorem ref_threshold_f (s d : Int) : waveletref08_Threshold.f s d = some (if Vd s d then thr s d else 0) := by
  unfold waveletref08_Threshold.f
  rw [ref_valid_f, Option.bind_some]
  by_cases h : Vd s d
  · rw [decide_eq_true h, if_pos rfl, if_pos h]
    have := prod_bounds h
    rw [wid (x := s * d) (by omega) (by omega), floordiv_f (by omega) (by omega) (by decide)]
    rfl
  · rw [decide_eq_false h, if_neg (by decide), if_neg h]
def clamp (c m : Int) : Int := mn (mx c (-m)) m
theorem clamp_bounds (c : Int) {m : Int} (h : 0 ≤ m) : -m ≤ clamp c m ∧ clamp c m ≤ m := by unfold clamp mn mx; omega
theorem clamp_neg (c : Int) {m : Int} (h : 0 ≤ m) : clamp (-c) m = -clamp c m := by unfold clamp mn mx; omega
theorem clamp_id {c m : Int} (h : -m ≤ c) (h' : c ≤ m) : clamp c m = c := by unfold clamp mn mx; omega
theorem limit_f (c m : Int) : quant_limit_int.f c (-m) m = some (clamp c m) := rfl
/-- The index of a coefficient n within the limits. -/
def qz (n s d : Int) : Int := if n ≥ thr s d then 1 + (n - thr s d) / s else if n ≤ -thr s d then -1 - (-n - thr s d) / s else 0
def Q (c s d : Int) : Int := if Vd s d then qz (clamp c 281474976710656) s d else 0
theorem quot_bounds {x s : Int} (hx : 0 ≤ x) (hs : 1 ≤ s) : 0 ≤ x / s ∧ x / s ≤ x :=
  ⟨Int.ediv_nonneg hx (by omega), Int.ediv_le_self _ hx⟩
theorem quantize_f (c s d : Int) : quant_Quantize.f c s d = some (Q c s d) := by
  unfold quant_Quantize.f Q
  rw [valid_f, Option.bind_some]
  by_cases h : Vd s d
  · rw [decide_eq_true h, if_pos rfl, if_pos h]
    rw [limit_f, Option.bind_some, threshold_f, Option.bind_some, if_pos h]
    have ht := thr_bounds h
    have hn := clamp_bounds c (m := 281474976710656) (by decide)
    generalize clamp c 281474976710656 = n at hn
    have hs : s ≠ 0 := by have := h.1; omega
    unfold qz
    generalize thr s d = t at ht
    by_cases h1 : n ≥ t
    · rw [if_pos h1, if_pos h1, if_neg hs, wid (x := n - t) (by omega) (by omega), Int.tdiv_eq_ediv_of_nonneg (by omega)]
      have q := quot_bounds (x := n - t) (s := s) (by omega) h.1
      rw [wid (x := (n - t) / s) (by omega) (by omega), wid (by omega) (by omega)]
    · rw [if_neg h1, if_neg h1, wid (x := -t) (by omega) (by omega)]
      by_cases h2 : n ≤ -t
      · rw [if_pos h2, if_pos h2, if_neg hs, wid (x := -n) (by omega) (by omega), wid (x := -n - t) (by omega) (by omega), Int.tdiv_eq_ediv_of_nonneg (by omega)]
        have q := quot_bounds (x := -n - t) (s := s) (by omega) h.1
        rw [wid (x := (-n - t) / s) (by omega) (by omega), wid (by omega) (by omega)]
      · rw [if_neg h2, if_neg h2]
  · rw [decide_eq_false h, if_neg (by decide), if_neg h]
theorem qz_bounds {n s d : Int} (h : Vd s d) (h0 : -281474976710656 ≤ n) (h1 : n ≤ 281474976710656) : -281474976710656 ≤ qz n s d ∧ qz n s d ≤ 281474976710656 := by
  have ht := thr_bounds h
  unfold qz
  generalize thr s d = t at ht
  by_cases a : n ≥ t
  · rw [if_pos a]
    have q := quot_bounds (x := n - t) (s := s) (by omega) h.1
    omega
  · rw [if_neg a]
    by_cases b : n ≤ -t
    · rw [if_pos b]
      have q := quot_bounds (x := -n - t) (s := s) (by omega) h.1
      omega
    · rw [if_neg b]
      decide
theorem Q_bounds (c s d : Int) : -281474976710656 ≤ Q c s d ∧ Q c s d ≤ 281474976710656 := by
  unfold Q
  have hn := clamp_bounds c (m := 281474976710656) (by decide)
  by_cases h : Vd s d
  · rw [if_pos h]
    exact qz_bounds h hn.1 hn.2
  · rw [if_neg h]
    decide
theorem qz_neg {n s d : Int} (h : Vd s d) : qz (-n) s d = -qz n s d := by
  have ht := thr_bounds h
  unfold qz
  generalize thr s d = t at ht
  by_cases a : n ≥ t
  · rw [if_pos a, if_neg (by omega), if_pos (by omega), Int.neg_neg]
    omega
  · rw [if_neg a]
    by_cases b : n ≤ -t
    · rw [if_pos b, if_pos (by omega)]
      omega
    · rw [if_neg b, if_neg (by omega), if_neg (by omega)]
      rfl
theorem Q_neg (c s d : Int) : Q (-c) s d = -Q c s d := by
  unfold Q
  by_cases h : Vd s d
  · rw [if_pos h, if_pos h, clamp_neg _ (by decide), qz_neg h]
  · rw [if_neg h, if_neg h]
    rfl
theorem qz_nonneg {n s d : Int} (h : Vd s d) (h0 : 0 ≤ n) : qz n s d = if n < thr s d then 0 else 1 + (n - thr s d) / s := by
  have ht := thr_bounds h
  unfold qz
  by_cases a : n ≥ thr s d
  · rw [if_pos a, if_neg (by omega)]
  · rw [if_neg a, if_neg (by omega), if_pos (by omega)]
theorem ref_limit_f {c m : Int} (h0 : 0 ≤ m) (h1 : m ≤ 9223372036854775807) : waveletref08_limit.f c m = some (clamp c m) := by
  unfold waveletref08_limit.f clamp
  rw [wid (x := -m) (by omega) (by omega)]
theorem ref_quantize_pos (k : Nat) {n s d : Int} (h : Vd s d) (h0 : 0 ≤ n) (h1 : n ≤ 281474976710656) : waveletref08_Quantize.f (k + 1) n s d = some (qz n s d) := by
  have ht := thr_bounds h
  simp only [waveletref08_Quantize.f]
  rw [ref_threshold_f, Option.bind_some, if_pos h, if_neg (by omega), ref_limit_f (by decide) (by decide), Option.bind_some, clamp_id (by omega) (by omega), if_neg (by omega), qz_nonneg h h0]
  by_cases a : n < thr s d
  · rw [if_pos a, if_pos a]
  · rw [if_neg a, if_neg a, wid (x := n - thr s d) (by omega) (by omega), floordiv_f (by omega) (by omega) h.1, Option.bind_some]
    have q := quot_bounds (x := n - thr s d) (s := s) (by omega) h.1
    rw [wid (by omega) (by omega)]
theorem ref_quantize_f (k : Nat) (c s d : Int) : waveletref08_Quantize.f (k + 2) c s d = some (Q c s d) := by
  unfold Q
  by_cases h : Vd s d
  · have ht := thr_bounds h
    rw [if_pos h]
    have hn := clamp_bounds c (m := 281474976710656) (by decide)
    have e : waveletref08_Quantize.f (k + 2) c s d = waveletref08_Quantize.f (k + 2) (clamp c 281474976710656) s d := by
      rw [show k + 2 = (k + 1) + 1 from rfl]
      simp only [waveletref08_Quantize.f]
      rw [ref_limit_f (c := c) (by decide) (by decide), ref_limit_f (c := clamp c 281474976710656) (by decide) (by decide), clamp_id hn.1 hn.2]
    rw [e]
    generalize clamp c 281474976710656 = n at hn
    by_cases a : 0 ≤ n
    · exact ref_quantize_pos _ h a hn.2
    · rw [show k + 2 = (k + 1) + 1 from rfl, waveletref08_Quantize.f]
      rw [ref_threshold_f, Option.bind_some, if_pos h, if_neg (by omega), ref_limit_f (by decide) (by decide), Option.bind_some, clamp_id (by omega) (by omega), if_pos (by omega), wid (x := -n) (by omega) (by omega), ref_quantize_pos k h (by omega) (by omega), Option.bind_some, qz_neg h, Int.neg_neg]
      have := qz_bounds h hn.1 hn.2
      rw [wid (by omega) (by omega)]
  · rw [if_neg h, show k + 2 = (k + 1) + 1 from rfl, waveletref08_Quantize.f]
    rw [ref_threshold_f, Option.bind_some, if_neg h, if_pos rfl]
theorem example_holds : waveletlaw08_exampleHolds.f 80 = some true := by kernel_rfl
theorem example_ev : Ev waveletlaw08_exampleHolds.f true := Ev.of waveletlaw08_exampleHolds.mono example_holds
end Go.Proofs.Ytloncbnceccbaaa.Arith
