/- What the law on intervals needs, in plain numbers: a coefficient lies in the interval of its index, and an index is reconstructed within it. -/
import Derived.Test.YtloncbnceccbaaaOrders
namespace Go.Proofs.Ytloncbnceccbaaa.Arith
open Go.RowKit Go.Proofs.Ytloncbnceccbaaa.Q Go.Proofs.Ytloncbnceccbaaa.Pure Go.Proofs.YtloncbnceccbaaaW.PrintWords Go.Proofs.YtloncbnceccbaaaW.PrintLast Go.Proofs.YtloncbnceccbaaaW.PrintMore
/-- The law's numbers, for a coefficient that is not negative. -/
theorem contains_pos {n m s d : Int} (h0 : 0 ≤ n) (h1 : n ≤ 1073741824) (hm : 0 ≤ m) (hm' : m ≤ 20) (h : Vd s d) (v w : Int) (hv : v = Q n s d) (hw : w = v / 2 ^ m.toNat * 2 ^ m.toNat) :
    0 ≤ v ∧ v ≤ 1073741824 ∧ 0 ≤ w ∧ w ≤ v ∧
    (Iv v 0 s d).1 ≤ n ∧ n ≤ (Iv v 0 s d).2 ∧ (Iv w m s d).1 ≤ n ∧ n ≤ (Iv w m s d).2 ∧ (Iv w m s d).1 ≤ (Iv v 0 s d).1 ∧ (Iv v 0 s d).2 ≤ (Iv w m s d).2 ∧
    (Iv v 0 s d).1 ≤ Rc v 0 s d ∧ Rc v 0 s d ≤ (Iv v 0 s d).2 ∧ (Iv w m s d).1 ≤ Rc w m s d ∧ Rc w m s d ≤ (Iv w m s d).2 ∧ Q (Rc v 0 s d) s d = v ∧ -281474976710656 ≤ (Iv w m s d).1 ∧ (Iv w m s d).2 ≤ 281474976710656 := by
  have ht := thr_bounds h
  have hs := h.1
  have hs' := h.2.1
  have hV0 : V60 0 s d := ⟨h, by decide, by decide⟩
  have hVm : V60 m s d := ⟨h, hm, by omega⟩
  have hq : Q n s d = if n < thr s d then 0 else 1 + (n - thr s d) / s := by
    unfold Q
    rw [if_pos h, clamp_id (by omega) (by omega), qz_nonneg h h0]
  rw [hq] at hv
  have hp := pow30 (s := m) hm (by omega)
  have hp20 : (2 : Int) ^ m.toNat ≤ 1048576 := by
    have : ∀ i : Fin 21, (2 : Int) ^ i.val ≤ 1048576 := by decide +kernel
    exact this ⟨m.toNat, by omega⟩
  generalize hP : (2 : Int) ^ m.toNat = p at hp hp20 hw
  -- v and what it says of n
  have hvb : 0 ≤ v ∧ v ≤ 1073741824 ∧ (v = 0 → n < thr s d) ∧ (1 ≤ v → thr s d + (v - 1) * s ≤ n ∧ n ≤ thr s d + (v - 1) * s + s - 1) := by
    by_cases c : n < thr s d
    · rw [if_pos c] at hv
      subst hv
      exact ⟨by decide, by decide, fun _ => c, fun k => absurd k (by decide)⟩
    · rw [if_neg c] at hv
      have q := quot_bounds (x := n - thr s d) (s := s) (by omega) hs
      have e1 := Int.mul_ediv_self_le (x := n - thr s d) (k := s) (by omega)
      have e2 := Int.lt_mul_ediv_self_add (x := n - thr s d) (k := s) (by omega)
      have e3 : v - 1 = (n - thr s d) / s := by omega
      rw [← e3] at e1 e2
      rw [Int.mul_comm s] at e1 e2
      refine ⟨by omega, by omega, by omega, fun _ => by omega⟩
  obtain ⟨v0, v1, vz, vp⟩ := hvb
  -- w
  have hwb : 0 ≤ w ∧ w ≤ v ∧ v ≤ w + p - 1 ∧ (w = 0 ∨ 1 ≤ w) := by
    have e1 := Int.mul_ediv_self_le (x := v) (k := p) (by omega)
    have e2 := Int.lt_mul_ediv_self_add (x := v) (k := p) (by omega)
    rw [Int.mul_comm p] at e1 e2
    have e3 : 0 ≤ v / p * p := Int.mul_nonneg (Int.ediv_nonneg v0 (by omega)) (by omega)
    omega
  obtain ⟨w0, w1, w2, w3⟩ := hwb
  have W0 : W60 0 s = s := by unfold W60 mn; simp; omega
  have hps : s ≤ p * s ∧ p * s ≤ 68719476736 := by
    have a := Int.mul_le_mul_of_nonneg_right hp.1 (show 0 ≤ s by omega)
    have b := Int.mul_le_mul hp20 hs' (by omega) (by decide)
    omega
  have Wm : W60 m s = p * s := by unfold W60 mn; rw [hP, if_neg (by omega)]
  have Pv : ∀ x : Int, 1 ≤ x → x ≤ v → P60 x s = (x - 1) * s ∧ 0 ≤ (x - 1) * s ∧ (x - 1) * s ≤ (v - 1) * s := fun x hx hx' => by
    have a := Int.mul_le_mul_of_nonneg_right (show x - 1 ≤ v - 1 by omega) (show 0 ≤ s by omega)
    have b : 0 ≤ (x - 1) * s := Int.mul_nonneg (by omega) (by omega)
    have c := (vp (by omega)).1
    refine ⟨?_, b, a⟩
    unfold P60 mn
    rw [if_neg (by omega)]
  -- the difference of the two indices, in widths
  have hvw : 1 ≤ w → (v - 1) * s ≤ (w - 1) * s + p * s - s := fun hw1 => by
    have a := Int.mul_le_mul_of_nonneg_right (show v - 1 ≤ (w - 1) + p - 1 by omega) (show 0 ≤ s by omega)
    have e : ((w - 1) + p - 1) * s = (w - 1) * s + p * s - s := by rw [Int.sub_mul, Int.add_mul, Int.one_mul]
    omega
  have hv0 : w = 0 → v * s ≤ p * s - s := fun hw0 => by
    have a := Int.mul_le_mul_of_nonneg_right (show v ≤ p - 1 by omega) (show 0 ≤ s by omega)
    rw [Int.sub_mul, Int.one_mul] at a
    exact a
  have hvs : (v - 1) * s = v * s - s := by rw [Int.sub_mul, Int.one_mul]
  have hvs0 : 0 ≤ v * s := Int.mul_nonneg v0 (by omega)
  have hIv : (v = 0 → Iv v 0 s d = (-(thr s d - 1), thr s d - 1)) ∧ (1 ≤ v → Iv v 0 s d = (thr s d + (v - 1) * s, thr s d + (v - 1) * s + s - 1)) := by
    unfold Iv En
    rw [if_pos hV0, if_neg (by omega), W0]
    constructor
    · intro hz
      rw [if_pos hz]
      simp only
      rw [clamp_id (by omega) (by omega), clamp_id (by omega) (by omega)]
      congr 1 <;> omega
    · intro hz
      rw [if_neg (by omega)]
      have a := Pv v hz (by omega)
      have b := vp hz
      simp only
      rw [a.1, clamp_id (by omega) (by omega), clamp_id (by omega) (by omega)]
  have hIw : (w = 0 → Iv w m s d = (-(thr s d - 1 + p * s - s), thr s d - 1 + p * s - s)) ∧ (1 ≤ w → Iv w m s d = (thr s d + (w - 1) * s, thr s d + (w - 1) * s + p * s - 1)) := by
    unfold Iv En
    rw [if_pos hVm, if_neg (by omega), Wm]
    constructor
    · intro hz
      rw [if_pos hz]
      simp only
      rw [clamp_id (by omega) (by omega), clamp_id (by omega) (by omega)]
    · intro hz
      rw [if_neg (by omega)]
      have a := Pv w hz (by omega)
      have b := vp (by omega)
      simp only
      rw [a.1, clamp_id (by omega) (by omega), clamp_id (by omega) (by omega)]
  have hRv : (v = 0 → Rc v 0 s d = 0) ∧ (1 ≤ v → Rc v 0 s d = (thr s d + (v - 1) * s + (thr s d + (v - 1) * s + s - 1)) / 2) := by
    unfold Rc En
    constructor
    · intro hz
      rw [if_pos hz]
    · intro hz
      rw [if_neg (by omega), if_pos hV0, if_neg (by omega), if_neg (by omega), W0]
      have a := Pv v hz (by omega)
      have b := vp hz
      simp only
      rw [a.1]
      unfold mn mx
      omega
  have hRw : (w = 0 → Rc w m s d = 0) ∧ (1 ≤ w → Rc w m s d = mn ((thr s d + (w - 1) * s + (thr s d + (w - 1) * s + p * s - 1)) / 2) 4294967296) := by
    unfold Rc En
    constructor
    · intro hz
      rw [if_pos hz]
    · intro hz
      rw [if_neg (by omega), if_pos hVm, if_neg (by omega), if_neg (by omega), Wm]
      have a := Pv w hz (by omega)
      simp only
      rw [a.1]
      unfold mn mx
      omega
  have hQx : Q (Rc v 0 s d) s d = v := by
    rcases (show v = 0 ∨ 1 ≤ v by omega) with hz | hz
    · rw [hRv.1 hz, hz]
      unfold Q
      rw [if_pos h, clamp_id (by decide) (by decide), qz_nonneg h (by decide), if_pos (by omega)]
    · rw [hRv.2 hz]
      have a := Pv v hz (by omega)
      have b := vp hz
      obtain ⟨x, hx⟩ : ∃ x, (thr s d + (v - 1) * s + (thr s d + (v - 1) * s + s - 1)) / 2 = x := ⟨_, rfl⟩
      rw [hx]
      unfold Q
      rw [if_pos h, clamp_id (by omega) (by omega), qz_nonneg h (by omega), if_neg (by omega)]
      have e : (x - thr s d) / s = v - 1 := by
        have c1 : v - 1 ≤ (x - thr s d) / s := Int.le_ediv_of_mul_le (by omega) (by omega)
        have c2 : (x - thr s d) / s < v - 1 + 1 := Int.ediv_lt_of_lt_mul (by omega) (by rw [Int.add_mul, Int.one_mul]; omega)
        omega
      omega
  refine ⟨v0, v1, w0, w1, ?_⟩
  have hw20 : 1 ≤ w → 0 ≤ (w - 1) * s ∧ (w - 1) * s ≤ (v - 1) * s := fun hz => (Pv w hz (by omega)).2
  rcases (show v = 0 ∨ 1 ≤ v by omega) with hz | hz
  · have hwz : w = 0 := by omega
    rw [hIv.1 hz, hIw.1 hwz, hQx, hRv.1 hz, hRw.1 hwz]
    have := vz hz
    simp only
    refine ⟨?_, ?_, ?_, ?_, ?_, ?_, ?_, ?_, ?_, ?_, ?_, ?_, ?_⟩ <;> first | trivial | omega
  · have b := vp hz
    have aa := (Pv v hz (by omega)).2.1
    rcases w3 with hwz | hwz
    · have c := hv0 hwz
      rw [hIv.2 hz, hIw.1 hwz, hQx, hRv.2 hz, hRw.1 hwz]
      simp only
      refine ⟨?_, ?_, ?_, ?_, ?_, ?_, ?_, ?_, ?_, ?_, ?_, ?_, ?_⟩ <;> first | trivial | omega
    · have c := hvw hwz
      have e := hw20 hwz
      rw [hIv.2 hz, hIw.2 hwz, hQx, hRv.2 hz, hRw.2 hwz]
      simp only
      unfold mn
      refine ⟨?_, ?_, ?_, ?_, ?_, ?_, ?_, ?_, ?_, ?_, ?_, ?_, ?_⟩ <;> first | trivial | omega
theorem Iv_neg {v m s d : Int} (h0 : 0 ≤ v) (h1 : v ≤ 9223372036854775807) : Iv (-v) m s d = (-(Iv v m s d).2, -(Iv v m s d).1) := by
  unfold Iv
  by_cases h : V60 m s d
  · rw [if_pos h, if_pos h, if_neg (show ¬ v < 0 by omega)]
    by_cases z : v = 0
    · subst z
      rw [if_neg (by decide)]
      unfold En
      rw [if_pos rfl, if_pos (by decide)]
      simp only
      rw [clamp_neg _ (by decide), Int.neg_neg]
    · have e : sz (-v) = v := by
        have := (sz_neg (v := -v) (by omega) (by omega)).2.2 (by omega)
        omega
      rw [if_pos (by omega), e]
      simp only
      rw [clamp_neg _ (by decide), clamp_neg _ (by decide)]
  · rw [if_neg h, if_neg h]
    rfl
theorem Rc_neg {v m s d : Int} (h0 : 0 ≤ v) (h1 : v ≤ 9223372036854775807) : Rc (-v) m s d = -Rc v m s d := by
  unfold Rc
  by_cases z : v = 0
  · subst z
    rfl
  · rw [if_neg (by omega), if_neg z]
    by_cases h : V60 m s d
    · have e : sz (-v) = v := by
        have := (sz_neg (v := -v) (by omega) (by omega)).2.2 (by omega)
        omega
      rw [if_pos h, if_pos h, if_pos (by omega), if_neg (by omega), e]
    · rw [if_neg h, if_neg h]
      rfl
/-- The law's numbers, for any coefficient. -/
structure Nums (c m s d v w lo hi a b x y : Int) : Prop where
  v0 : -1073741824 ≤ v
  v1 : v ≤ 1073741824
  w0 : -1073741824 ≤ w
  w1 : w ≤ 1073741824
  c0 : lo ≤ c
  c1 : c ≤ hi
  d0 : a ≤ c
  d1 : c ≤ b
  e0 : a ≤ lo
  e1 : hi ≤ b
  x0 : lo ≤ x
  x1 : x ≤ hi
  y0 : a ≤ y
  y1 : y ≤ b
  a0 : -281474976710656 ≤ a
  b1 : b ≤ 281474976710656
  hq : Q x s d = v
  hw : Int.tdiv v (2 ^ m.toNat) * 2 ^ m.toNat = w
theorem contains_all {c m s d : Int} (h0 : -1073741824 ≤ c) (h1 : c ≤ 1073741824) (hm : 0 ≤ m) (hm' : m ≤ 20) (h : Vd s d) :
    ∃ w : Int, Nums c m s d (Q c s d) w (Iv (Q c s d) 0 s d).1 (Iv (Q c s d) 0 s d).2 (Iv w m s d).1 (Iv w m s d).2 (Rc (Q c s d) 0 s d) (Rc w m s d) := by
  by_cases hc : 0 ≤ c
  · obtain ⟨v0, v1, w0, w1, a1, a2, a3, a4, a5, a6, a7, a8, a9, a10, a11, a12, a13⟩ := contains_pos hc h1 hm hm' h (Q c s d) _ rfl rfl
    refine ⟨_, by omega, by omega, by omega, by omega, a1, a2, a3, a4, a5, a6, a7, a8, a9, a10, a12, a13, a11, ?_⟩
    rw [Int.tdiv_eq_ediv_of_nonneg v0]
  · obtain ⟨v0, v1, w0, w1, a1, a2, a3, a4, a5, a6, a7, a8, a9, a10, a11, a12, a13⟩ := contains_pos (n := -c) (by omega) (by omega) hm hm' h (Q (-c) s d) _ rfl rfl
    have e : Q c s d = -Q (-c) s d := by rw [Q_neg, Int.neg_neg]
    rw [e]
    generalize Q (-c) s d = v at v0 v1 w0 w1 a1 a2 a3 a4 a5 a6 a7 a8 a9 a10 a11 a12 a13
    obtain ⟨w, hw⟩ : ∃ w, v / 2 ^ m.toNat * 2 ^ m.toNat = w := ⟨_, rfl⟩
    rw [hw] at w0 w1 a3 a4 a5 a6 a9 a10 a12 a13
    refine ⟨-w, ?_⟩
    rw [Iv_neg v0 (by omega), Iv_neg w0 (by omega), Rc_neg v0 (by omega), Rc_neg w0 (by omega)]
    refine ⟨by omega, by omega, by omega, by omega, by simp only; omega, by simp only; omega, by simp only; omega, by simp only; omega, by simp only; omega, by simp only; omega, by simp only; omega, by simp only; omega, by simp only; omega, by simp only; omega, by simp only; omega, by simp only; omega, by rw [Q_neg, a11], ?_⟩
    rw [Int.neg_tdiv, Int.tdiv_eq_ediv_of_nonneg v0, Int.neg_mul, hw]
end Go.Proofs.Ytloncbnceccbaaa.Arith
