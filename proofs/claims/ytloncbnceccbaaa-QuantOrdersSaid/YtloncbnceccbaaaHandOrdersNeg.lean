/- The walk of the law on Quantize's order, the first coefficient negative. -/
import Derived.Test.YtloncbnceccbaaaHandOrders
namespace Go.Proofs.Ytloncbnceccbaaa.Hand
open Go.RowKit Go.Proofs.Ytloncbnceccbaaa.Q Go.Proofs.Ytloncbnceccbaaa.Arith Go.Proofs.Ytloncbnceccbaaa.Pure Go.Proofs.YtloncbnceccbaaaW.PrintWords Go.Proofs.YtloncbnceccbaaaW.PrintLast Go.Proofs.YtloncbnceccbaaaW.PrintMore
set_option maxHeartbeats 4000000 in
set_option maxRecDepth 100000 in
theorem orders_neg_up (c d x0 x1 v u : Int) (k : Nat) (w : World) (hc0 : -281474976710656 ≤ c) (hc1 : c ≤ 281474976710656) (hd0 : -281474976710656 ≤ d) (hd1 : d ≤ 281474976710656) (hx : Vd x0 x1) (hv : Q c x0 x1 = v) (hu : Q d x0 x1 = u) (h0 : c < 0) (ho : c ≤ d) (hn : quant_Planes.f 80 (-c) x0 x1 = some (k : Int)) (hk : k ≤ 49) (hs : c ≤ d → d ≤ -c → -(2 ^ k : Int) < u ∧ u < 2 ^ k) :
    Calls Try.prog 9 #[.int .i64 c, .int .i64 d, .agg #[.int .i64 x0, .int .i64 x1]] w fun e w' => e = .returned (.bool true) ∧ Below w.heap.size w w' := by
  have HX := Aside0.mk hx
  have Q1 : ∀ w : World, Calls Try.prog 16 #[.int .i64 c, .int .i64 x0, .int .i64 x1] w fun e w' => e = .returned (.int .i64 v) ∧ Below w.heap.size w w' := fun w => hv ▸ q_any c x0 x1 w
  have Q2 : ∀ w : World, Calls Try.prog 16 #[.int .i64 d, .int .i64 x0, .int .i64 x1] w fun e w' => e = .returned (.int .i64 u) ∧ Below w.heap.size w w' := fun w => hu ▸ q_any d x0 x1 w
  have Q3 : ∀ w : World, Calls Try.prog 16 #[.int .i64 (-c), .int .i64 x0, .int .i64 x1] w fun e w' => e = .returned (.int .i64 (-v)) ∧ Below w.heap.size w w' := fun w => by rw [← hv, ← Q_neg]; exact q_any (-c) x0 x1 w
  have Q4 : ∀ w : World, Calls Try.prog 16 #[.int .i64 c, .int .i64 1, .int .i64 16] w fun e w' => e = .returned (.int .i64 c) ∧ Below w.heap.size w w' := fun w => by have := q_any c 1 16 w; rwa [Q_one hc0 hc1] at this
  obtain ⟨hp0, hp1⟩ := pow49 hk
  have hle : v ≤ u := by rw [← hv, ← hu]; exact Q_mono ho
  have Q5 : ∀ w : World, -4294967296 ≤ c → c ≤ 4294967296 → Calls Try.prog 21 #[.int .i64 c, .int .i64 0, .int .i64 1, .int .i64 16] w fun e w' => e = .returned (.int .i64 c) ∧ Below w.heap.size w w' := fun w h0 h1 => quant_Reconstruct.calls 80 c 0 1 16 c w (by rw [reconstruct_f 79 (by omega) (by omega), Rc_one h0 h1])
  have Q6 : ∀ w : World, Calls Try.prog 23 #[.int .i64 (-c), .int .i64 x0, .int .i64 x1] w fun e w' => e = .returned (.int .i64 (k : Int)) ∧ Below w.heap.size w w' := fun w => quant_Planes.calls 80 (-c) x0 x1 k w hn
  have vb := Q_bounds c x0 x1
  have ub := Q_bounds d x0 x1
  rw [hv] at vb
  rw [hu] at ub
  obtain ⟨vb0, vb1⟩ := vb
  obtain ⟨ub0, ub1⟩ := ub
  clear hx hv hu hn
  go_enter Try.func9, Try.ntmps9
  go_wp2_with (first | (go_at_call 13; refine (valid_yes HX.out _).mono ?_; rintro e w1 ⟨rfl, ⟨nd, rfl⟩⟩))
  have s0 : ((w.alloc (Obj.cells #[Value.int IntKind.i64 x0, Value.int IntKind.i64 x1] 27)).drewN nd).cell? ⟨w.heap.size, 0, none⟩ = some (.int .i64 x0) := by simp
  have s1 : ((w.alloc (Obj.cells #[Value.int IntKind.i64 x0, Value.int IntKind.i64 x1] 27)).drewN nd).cell? ⟨w.heap.size, 1, none⟩ = some (.int .i64 x1) := by simp
  have s2 : Below w.heap.size w ((w.alloc (Obj.cells #[Value.int IntKind.i64 x0, Value.int IntKind.i64 x1] 27)).drewN nd) := pw_below_drewN (below_alloc (Below.refl _ _) _) _
  have s3 : w.heap.size < ((w.alloc (Obj.cells #[Value.int IntKind.i64 x0, Value.int IntKind.i64 x1] 27)).drewN nd).heap.size := by simp
  generalize (w.alloc (Obj.cells #[Value.int IntKind.i64 x0, Value.int IntKind.i64 x1] 27)).drewN nd = W1 at s0 s1 s2 s3 ⊢
  go_region_held3 (fun w' => w'.cell? ⟨w.heap.size, 0, none⟩ = some (.int .i64 x0) ∧ w'.cell? ⟨w.heap.size, 1, none⟩ = some (.int .i64 x1) ∧ Below w.heap.size w w' ∧ w.heap.size < w'.heap.size)
    (first | exact ⟨s0, s1, below_drew s2, s3⟩ | go_keep | (go_split_ands; exact keepS ‹_› ‹_› ‹_› ‹_› hb))
    (first | (go_at_call 16; (with_reducible refine (Q1 _).mono ?_); rintro e w' ⟨rfl, hb⟩) | (go_at_call 16; (with_reducible refine (Q2 _).mono ?_); rintro e w' ⟨rfl, hb⟩))
  obtain ⟨c0, c1, B, L⟩ : w'.cell? ⟨w.heap.size, 0, none⟩ = some (.int .i64 x0) ∧ w'.cell? ⟨w.heap.size, 1, none⟩ = some (.int .i64 x1) ∧ Below w.heap.size w w' ∧ w.heap.size < w'.heap.size := by go_split_ands; exact ⟨‹_›, ‹_›, ‹_›, ‹_›⟩
  clear hb s0 s1 s2 s3
  go_wp2_with fail
  (with_reducible refine (Q3 _).mono ?_)
  rintro e w3 ⟨rfl, hb⟩
  obtain ⟨c0, c1, B, L⟩ := keepS c0 c1 B L hb
  clear hb
  go_wp2_with fail
  (with_reducible refine (Q4 _).mono ?_)
  rintro e w4 ⟨rfl, hb⟩
  obtain ⟨c0, c1, B, L⟩ := keepS c0 c1 B L hb
  clear hb
  by_cases hA0 : -4294967296 ≤ c
  · by_cases hA1 : c ≤ 4294967296
    · go_wp2_with fail
      (with_reducible refine (Q5 _ hA0 hA1).mono ?_)
      rintro e w5 ⟨rfl, hb⟩
      obtain ⟨c0, c1, B, L⟩ := keepS c0 c1 B L hb
      clear hb
      go_wp2_with fail
      (with_reducible refine (Q6 _).mono ?_)
      rintro e w6 ⟨rfl, hb⟩
      obtain ⟨c0, c1, B, L⟩ := keepS c0 c1 B L hb
      clear hb Q1 Q2 Q3 Q4 Q5 Q6
      by_cases hS : c ≤ d ∧ d ≤ -c
      · obtain ⟨hS0, hS1⟩ := hS
        obtain ⟨u0, u1⟩ := hs hS0 hS1
        have HS0 := Aside0.mk u0
        have HS1 := Aside0.mk u1
        clear hs u0 u1
        have E1 : wrap64 (-2 ^ k) < u := by rw [wid (by omega) (by omega)]; exact HS0.out
        have E2 : u < wrap64 (2 ^ k) := by rw [wid (by omega) (by omega)]; exact HS1.out
        have hkk : (k : Int) ≤ 60 := by omega
        clear hp0 hp1
        go_wp2_with (first | (go_at_call 18; ((with_reducible refine (ex_any _).mono ?_); rintro e w9 ⟨rfl, hb⟩)))
        all_goals (go_ret; exact ⟨rfl, below_step B hb⟩)
      · clear hs
        clear hp0 hp1
        have hkk : (k : Int) ≤ 60 := by omega
        by_cases hS0 : c ≤ d
        · have hS1 : -c < d := by omega
          clear hS
          go_wp2_with (first | (go_at_call 18; ((with_reducible refine (ex_any _).mono ?_); rintro e w9 ⟨rfl, hb⟩)))
          all_goals (go_ret; exact ⟨rfl, below_step B hb⟩)
        · have hS1 : d < c := by omega
          clear hS hS0
          go_wp2_with (first | (go_at_call 18; ((with_reducible refine (ex_any _).mono ?_); rintro e w9 ⟨rfl, hb⟩)))
          all_goals (go_ret; exact ⟨rfl, below_step B hb⟩)
    · omega
  · have hA0' := Int.not_le.1 hA0
    go_wp2_with fail
    (with_reducible refine (Q6 _).mono ?_)
    rintro e w6 ⟨rfl, hb⟩
    obtain ⟨c0, c1, B, L⟩ := keepS c0 c1 B L hb
    clear hb Q1 Q2 Q3 Q4 Q5 Q6
    by_cases hS : c ≤ d ∧ d ≤ -c
    · obtain ⟨hS0, hS1⟩ := hS
      obtain ⟨u0, u1⟩ := hs hS0 hS1
      have HS0 := Aside0.mk u0
      have HS1 := Aside0.mk u1
      clear hs u0 u1
      have E1 : wrap64 (-2 ^ k) < u := by rw [wid (by omega) (by omega)]; exact HS0.out
      have E2 : u < wrap64 (2 ^ k) := by rw [wid (by omega) (by omega)]; exact HS1.out
      have hkk : (k : Int) ≤ 60 := by omega
      clear hp0 hp1
      go_wp2_with (first | (go_at_call 18; ((with_reducible refine (ex_any _).mono ?_); rintro e w9 ⟨rfl, hb⟩)))
      all_goals (go_ret; exact ⟨rfl, below_step B hb⟩)
    · clear hs
      clear hp0 hp1
      have hkk : (k : Int) ≤ 60 := by omega
      by_cases hS0 : c ≤ d
      · have hS1 : -c < d := by omega
        clear hS
        go_wp2_with (first | (go_at_call 18; ((with_reducible refine (ex_any _).mono ?_); rintro e w9 ⟨rfl, hb⟩)))
        all_goals (go_ret; exact ⟨rfl, below_step B hb⟩)
      · have hS1 : d < c := by omega
        clear hS hS0
        go_wp2_with (first | (go_at_call 18; ((with_reducible refine (ex_any _).mono ?_); rintro e w9 ⟨rfl, hb⟩)))
        all_goals (go_ret; exact ⟨rfl, below_step B hb⟩)
set_option maxHeartbeats 4000000 in
set_option maxRecDepth 100000 in
theorem orders_neg_down (c d x0 x1 v u : Int) (k : Nat) (w : World) (hc0 : -281474976710656 ≤ c) (hc1 : c ≤ 281474976710656) (hd0 : -281474976710656 ≤ d) (hd1 : d ≤ 281474976710656) (hx : Vd x0 x1) (hv : Q c x0 x1 = v) (hu : Q d x0 x1 = u) (h0 : c < 0) (ho : d < c) (hn : quant_Planes.f 80 (-c) x0 x1 = some (k : Int)) (hk : k ≤ 49) (hs : c ≤ d → d ≤ -c → -(2 ^ k : Int) < u ∧ u < 2 ^ k) :
    Calls Try.prog 9 #[.int .i64 c, .int .i64 d, .agg #[.int .i64 x0, .int .i64 x1]] w fun e w' => e = .returned (.bool true) ∧ Below w.heap.size w w' := by
  have HX := Aside0.mk hx
  have Q1 : ∀ w : World, Calls Try.prog 16 #[.int .i64 c, .int .i64 x0, .int .i64 x1] w fun e w' => e = .returned (.int .i64 v) ∧ Below w.heap.size w w' := fun w => hv ▸ q_any c x0 x1 w
  have Q2 : ∀ w : World, Calls Try.prog 16 #[.int .i64 d, .int .i64 x0, .int .i64 x1] w fun e w' => e = .returned (.int .i64 u) ∧ Below w.heap.size w w' := fun w => hu ▸ q_any d x0 x1 w
  have Q3 : ∀ w : World, Calls Try.prog 16 #[.int .i64 (-c), .int .i64 x0, .int .i64 x1] w fun e w' => e = .returned (.int .i64 (-v)) ∧ Below w.heap.size w w' := fun w => by rw [← hv, ← Q_neg]; exact q_any (-c) x0 x1 w
  have Q4 : ∀ w : World, Calls Try.prog 16 #[.int .i64 c, .int .i64 1, .int .i64 16] w fun e w' => e = .returned (.int .i64 c) ∧ Below w.heap.size w w' := fun w => by have := q_any c 1 16 w; rwa [Q_one hc0 hc1] at this
  obtain ⟨hp0, hp1⟩ := pow49 hk
  have Q5 : ∀ w : World, -4294967296 ≤ c → c ≤ 4294967296 → Calls Try.prog 21 #[.int .i64 c, .int .i64 0, .int .i64 1, .int .i64 16] w fun e w' => e = .returned (.int .i64 c) ∧ Below w.heap.size w w' := fun w h0 h1 => quant_Reconstruct.calls 80 c 0 1 16 c w (by rw [reconstruct_f 79 (by omega) (by omega), Rc_one h0 h1])
  have Q6 : ∀ w : World, Calls Try.prog 23 #[.int .i64 (-c), .int .i64 x0, .int .i64 x1] w fun e w' => e = .returned (.int .i64 (k : Int)) ∧ Below w.heap.size w w' := fun w => quant_Planes.calls 80 (-c) x0 x1 k w hn
  have vb := Q_bounds c x0 x1
  have ub := Q_bounds d x0 x1
  rw [hv] at vb
  rw [hu] at ub
  obtain ⟨vb0, vb1⟩ := vb
  obtain ⟨ub0, ub1⟩ := ub
  clear hx hv hu hn
  go_enter Try.func9, Try.ntmps9
  go_wp2_with (first | (go_at_call 13; refine (valid_yes HX.out _).mono ?_; rintro e w1 ⟨rfl, ⟨nd, rfl⟩⟩))
  have s0 : ((w.alloc (Obj.cells #[Value.int IntKind.i64 x0, Value.int IntKind.i64 x1] 27)).drewN nd).cell? ⟨w.heap.size, 0, none⟩ = some (.int .i64 x0) := by simp
  have s1 : ((w.alloc (Obj.cells #[Value.int IntKind.i64 x0, Value.int IntKind.i64 x1] 27)).drewN nd).cell? ⟨w.heap.size, 1, none⟩ = some (.int .i64 x1) := by simp
  have s2 : Below w.heap.size w ((w.alloc (Obj.cells #[Value.int IntKind.i64 x0, Value.int IntKind.i64 x1] 27)).drewN nd) := pw_below_drewN (below_alloc (Below.refl _ _) _) _
  have s3 : w.heap.size < ((w.alloc (Obj.cells #[Value.int IntKind.i64 x0, Value.int IntKind.i64 x1] 27)).drewN nd).heap.size := by simp
  generalize (w.alloc (Obj.cells #[Value.int IntKind.i64 x0, Value.int IntKind.i64 x1] 27)).drewN nd = W1 at s0 s1 s2 s3 ⊢
  go_region_held3 (fun w' => w'.cell? ⟨w.heap.size, 0, none⟩ = some (.int .i64 x0) ∧ w'.cell? ⟨w.heap.size, 1, none⟩ = some (.int .i64 x1) ∧ Below w.heap.size w w' ∧ w.heap.size < w'.heap.size)
    (first | exact ⟨s0, s1, below_drew s2, s3⟩ | go_keep | (go_split_ands; exact keepS ‹_› ‹_› ‹_› ‹_› hb))
    (first | (go_at_call 16; (with_reducible refine (Q1 _).mono ?_); rintro e w' ⟨rfl, hb⟩) | (go_at_call 16; (with_reducible refine (Q2 _).mono ?_); rintro e w' ⟨rfl, hb⟩))
  obtain ⟨c0, c1, B, L⟩ : w'.cell? ⟨w.heap.size, 0, none⟩ = some (.int .i64 x0) ∧ w'.cell? ⟨w.heap.size, 1, none⟩ = some (.int .i64 x1) ∧ Below w.heap.size w w' ∧ w.heap.size < w'.heap.size := by go_split_ands; exact ⟨‹_›, ‹_›, ‹_›, ‹_›⟩
  clear hb s0 s1 s2 s3
  go_wp2_with fail
  (with_reducible refine (Q3 _).mono ?_)
  rintro e w3 ⟨rfl, hb⟩
  obtain ⟨c0, c1, B, L⟩ := keepS c0 c1 B L hb
  clear hb
  go_wp2_with fail
  (with_reducible refine (Q4 _).mono ?_)
  rintro e w4 ⟨rfl, hb⟩
  obtain ⟨c0, c1, B, L⟩ := keepS c0 c1 B L hb
  clear hb
  by_cases hA0 : -4294967296 ≤ c
  · by_cases hA1 : c ≤ 4294967296
    · go_wp2_with fail
      (with_reducible refine (Q5 _ hA0 hA1).mono ?_)
      rintro e w5 ⟨rfl, hb⟩
      obtain ⟨c0, c1, B, L⟩ := keepS c0 c1 B L hb
      clear hb
      go_wp2_with fail
      (with_reducible refine (Q6 _).mono ?_)
      rintro e w6 ⟨rfl, hb⟩
      obtain ⟨c0, c1, B, L⟩ := keepS c0 c1 B L hb
      clear hb Q1 Q2 Q3 Q4 Q5 Q6
      by_cases hS : c ≤ d ∧ d ≤ -c
      · obtain ⟨hS0, hS1⟩ := hS
        obtain ⟨u0, u1⟩ := hs hS0 hS1
        have HS0 := Aside0.mk u0
        have HS1 := Aside0.mk u1
        clear hs u0 u1
        have E1 : wrap64 (-2 ^ k) < u := by rw [wid (by omega) (by omega)]; exact HS0.out
        have E2 : u < wrap64 (2 ^ k) := by rw [wid (by omega) (by omega)]; exact HS1.out
        have hkk : (k : Int) ≤ 60 := by omega
        clear hp0 hp1
        go_wp2_with (first | (go_at_call 18; ((with_reducible refine (ex_any _).mono ?_); rintro e w9 ⟨rfl, hb⟩)))
        all_goals (go_ret; exact ⟨rfl, below_step B hb⟩)
      · clear hs
        clear hp0 hp1
        have hkk : (k : Int) ≤ 60 := by omega
        by_cases hS0 : c ≤ d
        · have hS1 : -c < d := by omega
          clear hS
          go_wp2_with (first | (go_at_call 18; ((with_reducible refine (ex_any _).mono ?_); rintro e w9 ⟨rfl, hb⟩)))
          all_goals (go_ret; exact ⟨rfl, below_step B hb⟩)
        · have hS1 : d < c := by omega
          clear hS hS0
          go_wp2_with (first | (go_at_call 18; ((with_reducible refine (ex_any _).mono ?_); rintro e w9 ⟨rfl, hb⟩)))
          all_goals (go_ret; exact ⟨rfl, below_step B hb⟩)
    · omega
  · have hA0' := Int.not_le.1 hA0
    go_wp2_with fail
    (with_reducible refine (Q6 _).mono ?_)
    rintro e w6 ⟨rfl, hb⟩
    obtain ⟨c0, c1, B, L⟩ := keepS c0 c1 B L hb
    clear hb Q1 Q2 Q3 Q4 Q5 Q6
    by_cases hS : c ≤ d ∧ d ≤ -c
    · obtain ⟨hS0, hS1⟩ := hS
      obtain ⟨u0, u1⟩ := hs hS0 hS1
      have HS0 := Aside0.mk u0
      have HS1 := Aside0.mk u1
      clear hs u0 u1
      have E1 : wrap64 (-2 ^ k) < u := by rw [wid (by omega) (by omega)]; exact HS0.out
      have E2 : u < wrap64 (2 ^ k) := by rw [wid (by omega) (by omega)]; exact HS1.out
      have hkk : (k : Int) ≤ 60 := by omega
      clear hp0 hp1
      go_wp2_with (first | (go_at_call 18; ((with_reducible refine (ex_any _).mono ?_); rintro e w9 ⟨rfl, hb⟩)))
      all_goals (go_ret; exact ⟨rfl, below_step B hb⟩)
    · clear hs
      clear hp0 hp1
      have hkk : (k : Int) ≤ 60 := by omega
      by_cases hS0 : c ≤ d
      · have hS1 : -c < d := by omega
        clear hS
        go_wp2_with (first | (go_at_call 18; ((with_reducible refine (ex_any _).mono ?_); rintro e w9 ⟨rfl, hb⟩)))
        all_goals (go_ret; exact ⟨rfl, below_step B hb⟩)
      · have hS1 : d < c := by omega
        clear hS hS0
        go_wp2_with (first | (go_at_call 18; ((with_reducible refine (ex_any _).mono ?_); rintro e w9 ⟨rfl, hb⟩)))
        all_goals (go_ret; exact ⟨rfl, below_step B hb⟩)
end Go.Proofs.Ytloncbnceccbaaa.Hand
