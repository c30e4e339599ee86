/- The walk of the law on Interval: whatever the arguments, the call returns true. -/
import Derived.Test.YtloncbnceccbaaaQx6
import Derived.Test.YtloncbnceccbaaaEnds
namespace Go.Proofs.Ytloncbnceccbaaa.Hand
open Go.RowKit Go.Proofs.Ytloncbnceccbaaa.Q Go.Proofs.Ytloncbnceccbaaa.Arith Go.Proofs.YtloncbnceccbaaaW.PrintWords Go.Proofs.YtloncbnceccbaaaW.PrintLast Go.Proofs.YtloncbnceccbaaaW.PrintMore
set_option maxHeartbeats 1000000 in
set_option maxRecDepth 100000 in
theorem intervals_calls (a0 a1 x0 x1 r1 r2 : Int) (k : Nat) (w : World) (h1 : quant_Interval.f a0 a1 x0 x1 = some (r1, r2)) (h2 : waveletref08_Interval.f k a0 a1 x0 x1 = some (r1, r2)) (h3 : waveletlaw08_exampleHolds.f k = some true) :
    Calls Try.prog 4 #[.int .i64 a0, .int .i64 a1, .agg #[.int .i64 x0, .int .i64 x1]] w fun e w' => e = .returned (.bool true) ∧ Below w.heap.size w w' := by
  have H1 := Aside0.mk h1
  have H2 := Aside0.mk h2
  have H3 := Aside0.mk h3
  clear h1 h2 h3
  go_enter Try.func4, Try.ntmps4
  go_wp2_with fail
  refine (quant_Interval.calls a0 a1 x0 x1 r1 r2 _ H1.out).mono ?_
  rintro e w1 ⟨rfl, hb⟩
  have B1 := below_step (below_alloc (Below.refl _ _) _) hb
  have c0 : w1.cell? ⟨w.heap.size, 0, none⟩ = some (.int .i64 x0) := by rw [hb.cell (p := ⟨w.heap.size, 0, none⟩) (by simp)]; simp
  have c1 : w1.cell? ⟨w.heap.size, 1, none⟩ = some (.int .i64 x1) := by rw [hb.cell (p := ⟨w.heap.size, 1, none⟩) (by simp)]; simp
  have HB1 := Aside0.mk B1
  clear hb B1
  go_wp2_with fail
  refine (waveletref08_Interval.calls k a0 a1 x0 x1 r1 r2 _ H2.out).mono ?_
  rintro e w2 ⟨rfl, hb⟩
  have HB2 := Aside0.mk (below_step HB1.out hb)
  clear hb c0 c1
  go_wp2_with fail
  refine (waveletlaw08_exampleHolds.calls k true _ H3.out).mono ?_
  rintro e w3 ⟨rfl, hb⟩
  have HB3 := Aside0.mk (below_step HB2.out hb)
  clear hb
  go_wp2_with fail
  go_ret
  exact ⟨rfl, HB3.out⟩
theorem intervals_walk (a0 a1 x0 x1 : Int) (w : World) (w0 : (Lit.int .i64 a0).wf = true) :
    Calls Try.prog 4 #[.int .i64 a0, .int .i64 a1, .agg #[.int .i64 x0, .int .i64 x1]] w fun e w' => e = .returned (.bool true) ∧ Below w.heap.size w w' := by
  have b := i64_bounds w0
  exact intervals_calls a0 a1 x0 x1 (Iv a0 a1 x0 x1).1 (Iv a0 a1 x0 x1).2 80 w (interval_f b.1 b.2) (ref_interval_f (by decide) b.1 b.2) example_holds
/-- Two cells of the call's first block, and what lies below, behind a callee. -/
theorem keepS {w W W' : World} {c0 c1 : Value} (h0 : W.cell? ⟨w.heap.size, 0, none⟩ = some c0) (h1 : W.cell? ⟨w.heap.size, 1, none⟩ = some c1) (hB : Below w.heap.size w W) (hl : w.heap.size < W.heap.size) (hb : Below W.heap.size W W') :
    W'.cell? ⟨w.heap.size, 0, none⟩ = some c0 ∧ W'.cell? ⟨w.heap.size, 1, none⟩ = some c1 ∧ Below w.heap.size w W' ∧ w.heap.size < W'.heap.size :=
  ⟨by rw [hb.cell (p := ⟨w.heap.size, 0, none⟩) hl]; exact h0, by rw [hb.cell (p := ⟨w.heap.size, 1, none⟩) hl]; exact h1, below_step hB hb, Nat.lt_of_lt_of_le hl hb.size⟩
set_option maxHeartbeats 1000000 in
set_option maxRecDepth 100000 in
theorem reconstructs_calls (a0 a1 x0 x1 r1 : Int) (k : Nat) (w : World) (h1 : quant_Reconstruct.f k a0 a1 x0 x1 = some r1) (h2 : waveletref08_Reconstruct.f k a0 a1 x0 x1 = some r1) (h3 : waveletlaw08_exampleHolds.f k = some true) :
    Calls Try.prog 5 #[.int .i64 a0, .int .i64 a1, .agg #[.int .i64 x0, .int .i64 x1]] w fun e w' => e = .returned (.bool true) ∧ Below w.heap.size w w' := by
  have H1 := Aside0.mk h1
  have H2 := Aside0.mk h2
  have H3 := Aside0.mk h3
  clear h1 h2 h3
  go_enter Try.func5, Try.ntmps5
  go_wp2_with fail
  have s0 : (w.alloc (Obj.cells #[Value.int IntKind.i64 x0, Value.int IntKind.i64 x1] 27)).cell? ⟨w.heap.size, 0, none⟩ = some (.int .i64 x0) := by simp
  have s1 : (w.alloc (Obj.cells #[Value.int IntKind.i64 x0, Value.int IntKind.i64 x1] 27)).cell? ⟨w.heap.size, 1, none⟩ = some (.int .i64 x1) := by simp
  have s2 : Below w.heap.size w (w.alloc (Obj.cells #[Value.int IntKind.i64 x0, Value.int IntKind.i64 x1] 27)) := below_alloc (Below.refl _ _) _
  have s3 : w.heap.size < (w.alloc (Obj.cells #[Value.int IntKind.i64 x0, Value.int IntKind.i64 x1] 27)).heap.size := by simp
  go_region_held3 (fun w' => w'.cell? ⟨w.heap.size, 0, none⟩ = some (.int .i64 x0) ∧ w'.cell? ⟨w.heap.size, 1, none⟩ = some (.int .i64 x1) ∧ Below w.heap.size w w' ∧ w.heap.size < w'.heap.size)
    (first | exact ⟨s0, s1, below_drew s2, s3⟩ | go_keep | (go_split_ands; exact keepS ‹_› ‹_› ‹_› ‹_› hb))
    (first | (go_at_call 21; refine (quant_Reconstruct.calls k a0 a1 x0 x1 r1 _ H1.out).mono ?_; rintro e w' ⟨rfl, hb⟩) | (go_at_call 22; refine (waveletref08_Reconstruct.calls k a0 a1 x0 x1 r1 _ H2.out).mono ?_; rintro e w' ⟨rfl, hb⟩) | (go_at_call 18; refine (waveletlaw08_exampleHolds.calls k true _ H3.out).mono ?_; rintro e w' ⟨rfl, hb⟩))
  go_wp2_with fail
  go_ret
  exact ⟨rfl, by go_split_ands; assumption⟩
theorem reconstructs_walk (a0 a1 x0 x1 : Int) (w : World) (w0 : (Lit.int .i64 a0).wf = true) :
    Calls Try.prog 5 #[.int .i64 a0, .int .i64 a1, .agg #[.int .i64 x0, .int .i64 x1]] w fun e w' => e = .returned (.bool true) ∧ Below w.heap.size w w' := by
  have b := i64_bounds w0
  exact reconstructs_calls a0 a1 x0 x1 (Rc a0 a1 x0 x1) 80 w (reconstruct_f 79 b.1 b.2) (ref_reconstruct_f (k := 76) (by decide) b.1 b.2) example_holds
end Go.Proofs.Ytloncbnceccbaaa.Hand
