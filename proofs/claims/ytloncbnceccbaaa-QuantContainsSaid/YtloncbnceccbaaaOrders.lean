/- What the law on Quantize's order and on Planes needs, in plain numbers. -/
import Derived.Test.YtloncbnceccbaaaPureQuantPlanes
import Derived.Test.YtloncbnceccbaaaEnds
namespace Go.Proofs.Ytloncbnceccbaaa.Arith
open Go.RowKit Go.Proofs.Ytloncbnceccbaaa.Q Go.Proofs.Ytloncbnceccbaaa.Pure Go.Proofs.YtloncbnceccbaaaW.PrintWords Go.Proofs.YtloncbnceccbaaaW.PrintLast Go.Proofs.YtloncbnceccbaaaW.PrintMore
theorem qz_mono {a b s d : Int} (h : Vd s d) (hab : a ≤ b) : qz a s d ≤ qz b s d := by
  have ht := thr_bounds h
  have hs := h.1
  unfold qz
  generalize thr s d = t at ht
  by_cases a1 : a ≥ t
  · rw [if_pos a1, if_pos (by omega)]
    have := Int.ediv_le_ediv (c := s) (by omega) (show a - t ≤ b - t by omega)
    omega
  · rw [if_neg a1]
    by_cases b1 : b ≥ t
    · rw [if_pos b1]
      have q := quot_bounds (x := b - t) (s := s) (by omega) hs
      by_cases a2 : a ≤ -t
      · rw [if_pos a2]
        have q2 := quot_bounds (x := -a - t) (s := s) (by omega) hs
        omega
      · rw [if_neg a2]; omega
    · rw [if_neg b1]
      by_cases b2 : b ≤ -t
      · rw [if_pos (show a ≤ -t by omega), if_pos b2]
        have := Int.ediv_le_ediv (c := s) (by omega) (show -b - t ≤ -a - t by omega)
        omega
      · rw [if_neg b2]
        by_cases a2 : a ≤ -t
        · rw [if_pos a2]
          have q2 := quot_bounds (x := -a - t) (s := s) (by omega) hs
          omega
        · rw [if_neg a2]; omega
theorem Q_mono {a b s d : Int} (hab : a ≤ b) : Q a s d ≤ Q b s d := by
  unfold Q
  by_cases h : Vd s d
  · rw [if_pos h, if_pos h]
    exact qz_mono h (by unfold clamp mn mx; omega)
  · rw [if_neg h, if_neg h]; omega
theorem Q_one {c : Int} (h0 : -281474976710656 ≤ c) (h1 : c ≤ 281474976710656) : Q c 1 16 = c := by
  unfold Q
  rw [if_pos (by decide), clamp_id h0 h1]
  unfold qz
  rw [show thr 1 16 = 1 by decide, Int.ediv_one, Int.ediv_one]
  by_cases a : c ≥ 1
  · rw [if_pos a]; omega
  · rw [if_neg a]
    by_cases b : c ≤ -1
    · rw [if_pos b]; omega
    · rw [if_neg b]; omega
theorem Rc_one {c : Int} (h0 : -4294967296 ≤ c) (h1 : c ≤ 4294967296) : Rc c 0 1 16 = c := by
  unfold Rc
  by_cases z : c = 0
  · rw [if_pos z, z]
  · rw [if_neg z, if_pos (by decide)]
    have hE : ∀ v : Int, 1 ≤ v → v ≤ 4294967296 → En v 0 1 16 = (v, v) := fun v hv hv' => by
      unfold En W60 P60
      rw [if_neg (by omega), show thr 1 16 = 1 by decide]
      have e1 : mn ((v - 1) * 1) 1152921504606846976 = v - 1 := by unfold mn; omega
      have e2 : mn (2 ^ (0 : Int).toNat * 1) 1152921504606846976 = 1 := by decide
      rw [e1, e2]
      congr 1 <;> omega
    by_cases c0 : c < 0
    · rw [if_pos c0]
      have zz := sz_neg c0 (by omega)
      rw [zz.2.2 (by omega), hE (-c) (by omega) (by omega)]
      simp only
      unfold mn mx
      omega
    · rw [if_neg c0, hE c (by omega) h1]
      simp only
      unfold mn mx
      omega
theorem Q_nonneg {c s d : Int} (h : 0 ≤ c) : 0 ≤ Q c s d := by
  unfold Q
  by_cases hv : Vd s d
  · have h0 : 0 ≤ clamp c 281474976710656 := by unfold clamp mn mx; omega
    have ht := thr_bounds hv
    rw [if_pos hv, qz_nonneg hv h0]
    split
    · decide
    · have := quot_bounds (x := clamp c 281474976710656 - thr s d) (s := s) (by omega) hv.1
      omega
  · rw [if_neg hv]; decide
theorem planes_f (k : Nat) {b s d : Int} (hb : 0 ≤ b) (h : Vd s d) : quant_Planes.f (k + 2) b s d = some ((dg (Q b s d).toNat : Nat) : Int) := by
  unfold quant_Planes.f
  rw [if_neg (by omega), valid_f, Option.bind_some, decide_eq_true h]
  simp only [quant_Planes.j0, Bool.not_true]
  rw [if_neg (by decide), quantize_f, Option.bind_some]
  have h0 := Q_nonneg (s := s) (d := d) hb
  have h1 := Q_bounds b s d
  obtain ⟨n, hn⟩ : ∃ n : Nat, Q b s d = (n : Int) := ⟨(Q b s d).toNat, by omega⟩
  have hw : IntKind.u64.wrap (n : Int) = (n : Int) := by
    simp [IntKind.wrap, IntKind.bits, IntKind.signed]
    omega
  rw [hn, hw, len64_f k n (by omega)]
  rfl
theorem dg_lt (n : Nat) : n < 2 ^ dg n := by
  unfold dg
  by_cases a : n = 0
  · rw [if_pos a, a]; decide
  · rw [if_neg a]; exact Nat.lt_log2_self
/-- The planes of a bound suffice. -/
theorem planes_suffice {c d s e : Int} (hd : -(mx c (-c)) ≤ d) (hd' : d ≤ mx c (-c)) : dg (Q (mx c (-c)) s e).toNat ≤ 49 ∧ -(2 ^ dg (Q (mx c (-c)) s e).toNat : Int) < Q d s e ∧ Q d s e < (2 ^ dg (Q (mx c (-c)) s e).toNat : Int) := by
  have h0 : 0 ≤ mx c (-c) := by unfold mx; omega
  have hq := Q_nonneg (s := s) (d := e) h0
  have hb := Q_bounds (mx c (-c)) s e
  have m1 := Q_mono (s := s) (d := e) hd
  have m2 := Q_mono (s := s) (d := e) hd'
  rw [Q_neg] at m1
  generalize Q (mx c (-c)) s e = x at hq hb m1 m2
  obtain ⟨n, rfl⟩ : ∃ n : Nat, x = (n : Int) := ⟨x.toNat, by omega⟩
  have hl := dg_lt n
  rw [Int.toNat_natCast]
  refine ⟨dg_le (by omega), ?_, ?_⟩
  · have : ((2 ^ dg n : Nat) : Int) = (2 : Int) ^ dg n := by norm_cast
    omega
  · have : ((2 ^ dg n : Nat) : Int) = (2 : Int) ^ dg n := by norm_cast
    omega
end Go.Proofs.Ytloncbnceccbaaa.Arith
