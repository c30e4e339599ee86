/- The walk of the law on intervals: whatever the arguments, the call returns true. -/
import Derived.Test.YtloncbnceccbaaaHandOrders
import Derived.Test.YtloncbnceccbaaaContains
namespace Go.Proofs.Ytloncbnceccbaaa.Hand
open Go.RowKit Go.Proofs.Ytloncbnceccbaaa.Q Go.Proofs.Ytloncbnceccbaaa.Arith Go.Proofs.Ytloncbnceccbaaa.Pure Go.Proofs.YtloncbnceccbaaaW.PrintWords Go.Proofs.YtloncbnceccbaaaW.PrintLast Go.Proofs.YtloncbnceccbaaaW.PrintMore
set_option maxHeartbeats 2000000 in
set_option maxRecDepth 100000 in
theorem contains_out (c b x0 x1 : Int) (w : World) (b0 : 0 ≤ b) (b1 : b ≤ 255) (h : c < -1073741824 ∨ 1073741824 < c ∨ ¬ Vd x0 x1) :
    Calls Try.prog 10 #[.int .i64 c, .int .u8 b, .agg #[.int .i64 x0, .int .i64 x1]] w fun e w' => e = .returned (.bool true) ∧ Below w.heap.size w w' := by
  by_cases h1 : c < -1073741824
  · go_enter Try.func10, Try.ntmps10
    go_wp2_with (first | (go_at_call 18; refine (ex_any _).mono ?_; rintro e w1 ⟨rfl, hb⟩))
    go_ret
    exact ⟨rfl, below_step (below_alloc (Below.refl _ _) _) hb⟩
  · by_cases h2 : 1073741824 < c
    · go_enter Try.func10, Try.ntmps10
      go_wp2_with (first | (go_at_call 18; refine (ex_any _).mono ?_; rintro e w1 ⟨rfl, hb⟩))
      go_ret
      exact ⟨rfl, below_step (below_alloc (Below.refl _ _) _) hb⟩
    · have h5 : ¬ Vd x0 x1 := by
        rcases h with h | h | h
        · exact absurd h h1
        · exact absurd h h2
        · exact h
      have H5 := Aside0.mk h5
      clear h5 h
      go_enter Try.func10, Try.ntmps10
      go_wp2_with (first | (go_at_call 13; refine (valid_no H5.out _).mono ?_; rintro e w1 ⟨rfl, ⟨nd, rfl⟩⟩) | (go_at_call 18; refine (ex_any _).mono ?_; rintro e w1 ⟨rfl, hb⟩))
      go_ret
      exact ⟨rfl, below_step (pw_below_drewN (below_alloc (Below.refl _ _) _) _) hb⟩
set_option maxHeartbeats 4000000 in
set_option maxRecDepth 100000 in
theorem contains_in (c b x0 x1 v u lo hi a e x y : Int) (w : World) (b0 : 0 ≤ b) (b1 : b ≤ 255) (hc0 : -1073741824 ≤ c) (hc1 : c ≤ 1073741824) (hx : Vd x0 x1) (hv : Q c x0 x1 = v)
    (hn : Nums c (b % 21) x0 x1 v u lo hi a e x y) (i1 : Iv v 0 x0 x1 = (lo, hi)) (i2 : Iv u (b % 21) x0 x1 = (a, e)) (r1 : Rc v 0 x0 x1 = x) (r2 : Rc u (b % 21) x0 x1 = y) :
    Calls Try.prog 10 #[.int .i64 c, .int .u8 b, .agg #[.int .i64 x0, .int .i64 x1]] w fun e w' => e = .returned (.bool true) ∧ Below w.heap.size w w' := by
  obtain ⟨v0, v1, u0, u1, cc0, cc1, d0, d1, e0, e1, xx0, xx1, y0, y1, a0, b2, hq, hw⟩ := hn
  have m0 : 0 ≤ b % 21 := by omega
  have m1 : b % 21 ≤ 20 := by omega
  have HX := Aside0.mk hx
  have C1 : ∀ w : World, Calls Try.prog 16 #[.int .i64 c, .int .i64 x0, .int .i64 x1] w fun e w' => e = .returned (.int .i64 v) ∧ Below w.heap.size w w' := fun w => hv ▸ q_any c x0 x1 w
  have C2 : ∀ w : World, Calls Try.prog 19 #[.int .i64 v, .int .i64 0, .int .i64 x0, .int .i64 x1] w fun e w' => e = .returned (.tuple #[.int .i64 lo, .int .i64 hi]) ∧ Below w.heap.size w w' := fun w => quant_Interval.calls v 0 x0 x1 lo hi w (by rw [interval_f (by omega) (by omega), i1])
  have C3 : ∀ w : World, Calls Try.prog 19 #[.int .i64 u, .int .i64 (b % 21), .int .i64 x0, .int .i64 x1] w fun z w' => z = .returned (.tuple #[.int .i64 a, .int .i64 e]) ∧ Below w.heap.size w w' := fun w => quant_Interval.calls u (b % 21) x0 x1 a e w (by rw [interval_f (by omega) (by omega), i2])
  have C4 : ∀ w : World, Calls Try.prog 21 #[.int .i64 v, .int .i64 0, .int .i64 x0, .int .i64 x1] w fun e w' => e = .returned (.int .i64 x) ∧ Below w.heap.size w w' := fun w => quant_Reconstruct.calls 80 v 0 x0 x1 x w (by rw [reconstruct_f 79 (by omega) (by omega), r1])
  have C5 : ∀ w : World, Calls Try.prog 21 #[.int .i64 u, .int .i64 (b % 21), .int .i64 x0, .int .i64 x1] w fun e w' => e = .returned (.int .i64 y) ∧ Below w.heap.size w w' := fun w => quant_Reconstruct.calls 80 u (b % 21) x0 x1 y w (by rw [reconstruct_f 79 (by omega) (by omega), r2])
  have C6 : ∀ w : World, Calls Try.prog 16 #[.int .i64 x, .int .i64 x0, .int .i64 x1] w fun e w' => e = .returned (.int .i64 v) ∧ Below w.heap.size w w' := fun w => hq ▸ q_any x x0 x1 w
  have hp := pow30 (s := b % 21) m0 (by omega)
  have HP := Aside0.mk hp
  have HW := Aside0.mk hw
  clear hx hv i1 i2 r1 r2 hq hw hp
  go_enter Try.func10, Try.ntmps10
  go_wp2_with (first | (go_at_call 13; refine (valid_yes HX.out _).mono ?_; rintro e w1 ⟨rfl, ⟨nd, rfl⟩⟩))
  (with_reducible refine (C1 _).mono ?_)
  rintro z w1 ⟨rfl, hb⟩
  obtain ⟨s0, s1, B, L⟩ := keepS (w := w) (W' := w1) (c0 := .int .i64 x0) (c1 := .int .i64 x1) (by simp) (by simp) (pw_below_drewN (below_alloc (Below.refl _ _) _) _) (by simp) hb
  clear hb
  go_wp2_with fail
  (with_reducible refine (C2 _).mono ?_)
  rintro z w2 ⟨rfl, hb⟩
  obtain ⟨s0, s1, B, L⟩ := keepS s0 s1 B L hb
  clear hb
  go_upto_region 8 with (fail)
  go_cut [11] (fun s11 wx => s11 = .int .i64 u ∧ wx.cell? ⟨w.heap.size, 0, none⟩ = some (.int .i64 x0) ∧ wx.cell? ⟨w.heap.size, 1, none⟩ = some (.int .i64 x1) ∧ Below w.heap.size w wx ∧ w.heap.size < wx.heap.size)
  case first =>
    obtain ⟨P, hP⟩ : ∃ P, shl .i64 1 (b % 21) = P := ⟨_, rfl⟩
    have P1 : 1 ≤ P := by rw [← hP, shl_one m0 (by omega)]; exact HP.out.1
    have P2 : P ≤ 1073741824 := by rw [← hP, shl_one m0 (by omega)]; exact HP.out.2
    have PE : wrap64 (wrap64 (Int.tdiv v P) * P) = u := by
      have e : P = 2 ^ (b % 21).toNat := by rw [← hP, shl_one m0 (by omega)]
      have t := tdiv_bounds v P1 (by omega) (by omega)
      rw [wid t.1 t.2, e, HW.out, wid (by omega) (by omega)]
    have PZ : (P == 0) = false := by simp; omega
    have hPw : wrap64 (2 ^ (b % 21).toNat) = P := by rw [← hP, shl_one m0 (by omega)]; have := HP.out; rw [wid (by omega) (by omega)]
    have HPE := Aside0.mk PE
    have HS0 := Aside0.mk s0
    have HS1 := Aside0.mk s1
    have HB := Aside0.mk B
    have HL := Aside0.mk L
    clear hP PE C1 C2 C3 C4 C5 C6 cc0 cc1 d0 d1 e0 e1 xx0 xx1 y0 y1 a0 b2 u0 u1 hc0 hc1 s0 s1 B L HX HP HW P2
    go_region
    go_wp2_with fail
    go_meet
    have e : wrap64 (Int.tdiv v P * P) = u := by
      have t := tdiv_bounds v P1 (by omega) (by omega)
      have h := HPE.out
      rwa [wid t.1 t.2] at h
    exact ⟨by rw [e], by simpa using HS0.out, by simpa using HS1.out, below_drew HB.out, by simpa using HL.out⟩
  case rest =>
    obtain ⟨rfl, s0, s1, B, L⟩ := hcut
    clear HP HW C1 C2
    go_wp2_with fail
    (with_reducible refine (C3 _).mono ?_)
    rintro z w3 ⟨rfl, hb⟩
    obtain ⟨s0, s1, B, L⟩ := keepS s0 s1 B L hb
    clear hb
    go_wp2_with fail
    (with_reducible refine (C4 _).mono ?_)
    rintro z w4 ⟨rfl, hb⟩
    obtain ⟨s0, s1, B, L⟩ := keepS s0 s1 B L hb
    clear hb
    go_wp2_with fail
    (with_reducible refine (C5 _).mono ?_)
    rintro z w5 ⟨rfl, hb⟩
    obtain ⟨s0, s1, B, L⟩ := keepS s0 s1 B L hb
    clear hb
    go_wp2_with fail
    (with_reducible refine (C6 _).mono ?_)
    rintro z w6 ⟨rfl, hb⟩
    obtain ⟨s0, s1, B, L⟩ := keepS s0 s1 B L hb
    clear hb
    go_wp2_with fail
    (with_reducible refine (ex_any _).mono ?_)
    rintro z w7 ⟨rfl, hb⟩
    go_wp2_with fail
    go_ret
    exact ⟨rfl, below_step B hb⟩
theorem contains_walk (c b x0 x1 : Int) (w : World) (hb : (Lit.int .u8 b).wf = true) : Calls Try.prog 10 #[.int .i64 c, .int .u8 b, .agg #[.int .i64 x0, .int .i64 x1]] w fun e w' => e = .returned (.bool true) ∧ Below w.heap.size w w' := by
  have hb' : 0 ≤ b ∧ b ≤ 255 := by
    simp only [Lit.wf, IntKind.min, IntKind.max, IntKind.signed, IntKind.bits, Bool.and_eq_true] at hb
    exact ⟨by simpa using hb.1, by have := hb.2; simp at this; omega⟩
  by_cases h : c < -1073741824 ∨ 1073741824 < c ∨ ¬ Vd x0 x1
  · exact contains_out c b x0 x1 w hb'.1 hb'.2 h
  · have hx : Vd x0 x1 := Classical.byContradiction fun k => h (by simp [k])
    have hc : -1073741824 ≤ c ∧ c ≤ 1073741824 := by
      refine ⟨?_, ?_⟩ <;> (apply Classical.byContradiction; intro k; apply h; omega)
    obtain ⟨u, hn⟩ := contains_all (m := b % 21) hc.1 hc.2 (by omega) (by omega) hx
    exact contains_in c b x0 x1 _ u _ _ _ _ _ _ w hb'.1 hb'.2 hc.1 hc.2 hx rfl hn rfl rfl rfl rfl
end Go.Proofs.Ytloncbnceccbaaa.Hand
