/- The walk of the law on Quantize's order: whatever the arguments, the call returns true. -/
import Derived.Test.YtloncbnceccbaaaQx6
import Derived.Test.YtloncbnceccbaaaOrders
import Derived.Test.YtloncbnceccbaaaHandIntervals
namespace Go.Proofs.Ytloncbnceccbaaa.Hand
open Go.RowKit Go.Proofs.Ytloncbnceccbaaa.Q Go.Proofs.Ytloncbnceccbaaa.Arith Go.Proofs.Ytloncbnceccbaaa.Pure Go.Proofs.YtloncbnceccbaaaW.PrintWords Go.Proofs.YtloncbnceccbaaaW.PrintLast Go.Proofs.YtloncbnceccbaaaW.PrintMore
theorem ex_any (w : World) : Calls Try.prog 18 #[] w fun e w' => e = .returned (.bool true) ∧ Below w.heap.size w w' := waveletlaw08_exampleHolds.calls 80 true w example_holds
theorem valid_yes {s d : Int} (h : Vd s d) (w : World) : Calls Try.prog 13 #[.int .i64 s, .int .i64 d] w fun e w' => e = .returned (.bool true) ∧ Drawn0 w w' := waveletref08_Valid.calls s d true w (by rw [ref_valid_f, decide_eq_true h])
theorem valid_no {s d : Int} (h : ¬ Vd s d) (w : World) : Calls Try.prog 13 #[.int .i64 s, .int .i64 d] w fun e w' => e = .returned (.bool false) ∧ Drawn0 w w' := waveletref08_Valid.calls s d false w (by rw [ref_valid_f, decide_eq_false h])
set_option maxHeartbeats 1000000 in
set_option maxRecDepth 100000 in
/-- A guard says no: the examples alone. -/
theorem orders_out (c d x0 x1 : Int) (w : World) (h : c < -281474976710656 ∨ 281474976710656 < c ∨ d < -281474976710656 ∨ 281474976710656 < d ∨ ¬ Vd x0 x1) :
    Calls Try.prog 9 #[.int .i64 c, .int .i64 d, .agg #[.int .i64 x0, .int .i64 x1]] w fun e w' => e = .returned (.bool true) ∧ Below w.heap.size w w' := by
  by_cases h1 : c < -281474976710656
  · go_enter Try.func9, Try.ntmps9
    go_wp2_with (first | (go_at_call 18; refine (ex_any _).mono ?_; rintro e w1 ⟨rfl, hb⟩))
    go_ret
    exact ⟨rfl, below_step (below_alloc (Below.refl _ _) _) hb⟩
  · by_cases h2 : 281474976710656 < c
    · go_enter Try.func9, Try.ntmps9
      go_wp2_with (first | (go_at_call 18; refine (ex_any _).mono ?_; rintro e w1 ⟨rfl, hb⟩))
      go_ret
      exact ⟨rfl, below_step (below_alloc (Below.refl _ _) _) hb⟩
    · by_cases h3 : d < -281474976710656
      · go_enter Try.func9, Try.ntmps9
        go_wp2_with (first | (go_at_call 18; refine (ex_any _).mono ?_; rintro e w1 ⟨rfl, hb⟩))
        go_ret
        exact ⟨rfl, below_step (below_alloc (Below.refl _ _) _) hb⟩
      · by_cases h4 : 281474976710656 < d
        · go_enter Try.func9, Try.ntmps9
          go_wp2_with (first | (go_at_call 18; refine (ex_any _).mono ?_; rintro e w1 ⟨rfl, hb⟩))
          go_ret
          exact ⟨rfl, below_step (below_alloc (Below.refl _ _) _) hb⟩
        · have h5 : ¬ Vd x0 x1 := by
            rcases h with h | h | h | h | h
            · exact absurd h h1
            · exact absurd h h2
            · exact absurd h h3
            · exact absurd h h4
            · exact h
          have H5 := Aside0.mk h5
          clear h5 h
          go_enter Try.func9, Try.ntmps9
          go_wp2_with (first | (go_at_call 13; refine (valid_no H5.out _).mono ?_; rintro e w1 ⟨rfl, ⟨nd, rfl⟩⟩) | (go_at_call 18; refine (ex_any _).mono ?_; rintro e w1 ⟨rfl, hb⟩))
          go_ret
          exact ⟨rfl, below_step (pw_below_drewN (below_alloc (Below.refl _ _) _) _) hb⟩
theorem q_any (c s d : Int) (w : World) : Calls Try.prog 16 #[.int .i64 c, .int .i64 s, .int .i64 d] w fun e w' => e = .returned (.int .i64 (Q c s d)) ∧ Below w.heap.size w w' := quant_Quantize.calls c s d _ w (quantize_f c s d)
theorem pow49 {k : Nat} (h : k ≤ 49) : 1 ≤ (2 : Int) ^ k ∧ (2 : Int) ^ k ≤ 562949953421312 := by
  have : ∀ i : Fin 50, 1 ≤ (2 : Int) ^ i.val ∧ (2 : Int) ^ i.val ≤ 562949953421312 := by decide +kernel
  exact this ⟨k, by omega⟩
end Go.Proofs.Ytloncbnceccbaaa.Hand
