/- The law on Quantize's order: whatever the arguments, the call returns true. -/
import Derived.Test.YtloncbnceccbaaaHandOrdersPos
import Derived.Test.YtloncbnceccbaaaHandOrdersNeg
namespace Go.Proofs.Ytloncbnceccbaaa.Hand
open Go.RowKit Go.Proofs.Ytloncbnceccbaaa.Q Go.Proofs.Ytloncbnceccbaaa.Arith Go.Proofs.Ytloncbnceccbaaa.Pure Go.Proofs.YtloncbnceccbaaaW.PrintWords Go.Proofs.YtloncbnceccbaaaW.PrintLast Go.Proofs.YtloncbnceccbaaaW.PrintMore
theorem orders_walk (c d x0 x1 : Int) (w : World) : Calls Try.prog 9 #[.int .i64 c, .int .i64 d, .agg #[.int .i64 x0, .int .i64 x1]] w fun e w' => e = .returned (.bool true) ∧ Below w.heap.size w w' := by
  by_cases h : c < -281474976710656 ∨ 281474976710656 < c ∨ d < -281474976710656 ∨ 281474976710656 < d ∨ ¬ Vd x0 x1
  · exact orders_out c d x0 x1 w h
  · have hx : Vd x0 x1 := Classical.byContradiction fun k => h (by simp [k])
    have hb : -281474976710656 ≤ c ∧ c ≤ 281474976710656 ∧ -281474976710656 ≤ d ∧ d ≤ 281474976710656 := by
      refine ⟨?_, ?_, ?_, ?_⟩ <;> (apply Classical.byContradiction; intro k; apply h; omega)
    obtain ⟨hc0, hc1, hd0, hd1⟩ := hb
    have key := fun (h1 : -(mx c (-c)) ≤ d) (h2 : d ≤ mx c (-c)) => planes_suffice (s := x0) (e := x1) h1 h2
    have hk : dg (Q (mx c (-c)) x0 x1).toNat ≤ 49 := by
      have h0 : 0 ≤ mx c (-c) := by unfold mx; omega
      exact (planes_suffice (c := c) (d := 0) (s := x0) (e := x1) (by omega) h0).1
    have hn : quant_Planes.f 80 (mx c (-c)) x0 x1 = some ((dg (Q (mx c (-c)) x0 x1).toNat : Nat) : Int) := planes_f 78 (by unfold mx; omega) hx
    by_cases h0 : 0 ≤ c
    · have e : mx c (-c) = c := by unfold mx; omega
      rw [e] at key hk hn
      have hs := fun (a : -c ≤ d) (b : d ≤ c) => (key a b).2
      by_cases ho : c ≤ d
      · exact orders_pos_up c d x0 x1 _ _ _ w hc0 hc1 hd0 hd1 hx rfl rfl h0 ho hn hk hs
      · exact orders_pos_down c d x0 x1 _ _ _ w hc0 hc1 hd0 hd1 hx rfl rfl h0 (by omega) hn hk hs
    · have e : mx c (-c) = -c := by unfold mx; omega
      rw [e] at key hk hn
      rw [Int.neg_neg] at key
      have hs := fun (a : c ≤ d) (b : d ≤ -c) => (key a b).2
      by_cases ho : c ≤ d
      · exact orders_neg_up c d x0 x1 _ _ _ w hc0 hc1 hd0 hd1 hx rfl rfl (by omega) ho hn hk hs
      · exact orders_neg_down c d x0 x1 _ _ _ w hc0 hc1 hd0 hd1 hx rfl rfl (by omega) (by omega) hn hk hs
end Go.Proofs.Ytloncbnceccbaaa.Hand
