/- Lean functions that stand for Go's, over an explicit heap, and the proofs that they do (written by this claim's program shallow.py). -/
import Derived.Test.YtblkejnciinaeaaSh0
import Derived.Test.YtblkejnciinaeaaSh2
import Derived.Test.YtblkejnciinaeaaSh6
set_option maxRecDepth 100000
set_option linter.unusedVariables false
set_option linter.unusedSimpArgs false
namespace Go.Proofs.Ytblkejnciinaeaa.Sh
open Go.Proofs.Ytblkejnciinaeaa.FW
/-! ### R10_Depth: function 14 -/
abbrev R10_Depth_l0_t (R : Type) : Type := (Int → Option R) → Nat → Int → Int → Int → Option R
def R10_Depth_l0_b {R : Type} (rec : Int → Int → Int → Option R) (KE0 : Int → Option R) (k : Nat) (n122 : Int) (n123 : Int) (n124 : Int) : Option R :=
bif decide ((IntKind.wrap .i64 (n122 * n123)) > 1) then (rec (IntKind.wrap .i64 (Int.tdiv (IntKind.wrap .i64 (n122 + 1)) 2)) (IntKind.wrap .i64 (Int.tdiv (IntKind.wrap .i64 (n123 + 1)) 2)) (IntKind.wrap .i64 (n124 + 1)))
 else (KE0 n124)
def R10_Depth_l0 {R : Type} (k : Nat) (KE0 : Int → Option R) : Nat → Int → Int → Int → Option R
  | 0, _, _, _ => none
  | n + 1, n122, n123, n124 => R10_Depth_l0_b (R10_Depth_l0 k KE0 n) KE0 k n122 n123 n124

abbrev R10_Depth_t (R : Type) : Type := Int → Int → Heap → (Int → Heap → Option R) → Option R

def R10_Depth_b {R : Type} (R10_New : R10_New_t R) (R10_Depth_l0 : R10_Depth_l0_t R) (k : Nat) (n117 : Int) (n118 : Int) (H : Heap) (K : Int → Heap → Option R) : Option R :=
R10_New n117 n118 H fun p119 n120 H121 =>
bif (n120 != 0) then (K 0 H121)
 else (R10_Depth_l0 (fun n126 =>
K n126 H121) k n117 n118 1)

def R10_Depth {R : Type} (k : Nat) (n117 : Int) (n118 : Int) (H : Heap) (K : Int → Heap → Option R) : Option R := R10_Depth_b (R10_New k) (R10_Depth_l0 k) k n117 n118 H K

def R10_Depth_Ct {R : Type} (R10_New : R10_New_t R) : Tab R := tcons 12 (R10_New_ca R10_New) <| fun _ _ _ _ => none
def R10_Depth_C (R : Type) (k : Nat) : Tab R := R10_Depth_Ct (R10_New k)
theorem R10_Depth_S (R : Type) (k : Nat) : CSound Try.prog (R10_Depth_C R k) := csound_cons (R10_New_cs R k) <| csound_nil
def R10_Depth_aa0 {R : Type} (f : R10_Depth_l0_t R) (n : Nat) (vals : List Value) (H : Heap) (K : Xit → Env → Heap → Option R) : Option R :=
  match vals with
  | [.int .i64 n122, .int .i64 n123, .int .i64 n124] => f (fun n1610 => K (.exit 0) [(7, .int .i64 n1610)] H) n n122 n123 n124
  | _ => none
def R10_Depth_a0 (R : Type) (k n : Nat) (vals : List Value) (H : Heap) (K : Xit → Env → Heap → Option R) : Option R := R10_Depth_aa0 (R10_Depth_l0 k) n vals H K
def R10_Depth_Jt {R : Type} (k : Nat) (R10_Depth_l0 : R10_Depth_l0_t R) : JTab R := tcons 0 (R10_Depth_aa0 R10_Depth_l0 k) <| fun _ _ _ _ => none
def R10_Depth_J (R : Type) (k : Nat) : JTab R := R10_Depth_Jt k (R10_Depth_l0 k)
def R10_Depth_at : AT := (.seq (.reg [0, 1] []) (.seq (.reg [0, 1, 6] []) (.seq (.seq (.reg [0, 1, 15] []) (.cond (.seq (.reg [4] []) .leaf) .leaf)) (.seq (.reg [0, 1, 7] []) (.seq (.node (.opq 0 [0, 1, 7] ⟨[], [(0, [7])], []⟩ (.node (.seq (.seq (.reg [0, 1, 7, 19] []) (.cond .leaf .leaf)) (.node (.seq (.reg [0, 1, 7] []) (.reg [0, 1, 7] []))))))) (.seq (.reg [4] []) .leaf))))))
def R10_Depth_i0 : IC := (.seq (.seq (.reg [⟨some 16, .mov (.t 0), none⟩,
 ⟨some 17, .mov (.t 1), none⟩,
 ⟨some 18, .bin .mul .i64 (.t 16) (.t 17), none⟩,
 ⟨some 19, .cmp .gtr (.t 18) (.c (Go.Value.int Go.IntKind.i64 1)), none⟩] [0, 1, 7, 19]) (.cond (.t 19) .skip (.exit 0))) (.block 1 (.seq (.reg [⟨some 20, .mov (.t 0), none⟩,
 ⟨some 21, .bin .add .i64 (.t 20) (.c (Go.Value.int Go.IntKind.i64 1)), none⟩,
 ⟨some 22, .bin .quo .i64 (.t 21) (.c (Go.Value.int Go.IntKind.i64 2)), none⟩,
 ⟨some 23, .mov (.t 1), none⟩,
 ⟨some 24, .bin .add .i64 (.t 23) (.c (Go.Value.int Go.IntKind.i64 1)), none⟩,
 ⟨some 25, .bin .quo .i64 (.t 24) (.c (Go.Value.int Go.IntKind.i64 2)), none⟩,
 ⟨some 0, .mov (.t 22), none⟩,
 ⟨some 1, .mov (.t 25), none⟩] [0, 1, 7]) (.reg [⟨some 26, .mov (.t 7), none⟩,
 ⟨some 27, .bin .add .i64 (.t 26) (.c (Go.Value.int Go.IntKind.i64 1)), none⟩,
 ⟨some 7, .mov (.t 27), none⟩] [0, 1, 7]))))
def R10_Depth_f : IFn := ⟨29, [.t 4], (.seq (.reg [⟨some 4, .mov (.c (Go.Value.int Go.IntKind.i64 0)), none⟩] [0, 1]) (.seq (.reg [⟨some 9, .mov (.t 0), none⟩,
 ⟨some 10, .mov (.t 1), none⟩,
 ⟨some 11, .call 12 [(.t 9), (.t 10)] (.tup [(.sc .ptr), (.sc (.int .i64))]), none⟩,
 ⟨some 8, .mov (.t 11), none⟩,
 ⟨some 12, .ext 0 (.t 8), none⟩,
 ⟨some 13, .ext 1 (.t 8), none⟩,
 ⟨some 5, .mov (.t 12), none⟩,
 ⟨some 6, .mov (.t 13), none⟩] [0, 1, 6]) (.seq (.seq (.reg [⟨some 14, .mov (.t 6), none⟩,
 ⟨some 15, .cmp .neq (.t 14) (.c (Go.Value.int Go.IntKind.i64 0)), none⟩] [0, 1, 15]) (.cond (.t 15) (.seq (.reg [⟨some 4, .mov (.c (Go.Value.int Go.IntKind.i64 0)), none⟩] [4]) .ret) .skip)) (.seq (.reg [⟨some 7, .mov (.c (Go.Value.int Go.IntKind.i64 1)), none⟩] [0, 1, 7]) (.seq (.block 0 (.opq 0 [0, 1, 7] (.loop R10_Depth_i0))) (.seq (.reg [⟨some 28, .mov (.t 7), none⟩,
 ⟨some 4, .mov (.t 28), none⟩] [4]) .ret))))))⟩
theorem R10_Depth_e0 {R : Type} (R10_New : R10_New_t R) (R10_Depth_l0 : R10_Depth_l0_t R) (k n : Nat) (n122 : Int) (n123 : Int) (n124 : Int) (H : Heap) (K : Xit → Env → Heap → Option R) : evJ (R10_Depth_Ct R10_New) (R10_Depth_Jt k R10_Depth_l0) R10_Depth_i0 (List.zip [0, 1, 7] [.int .i64 n122, .int .i64 n123, .int .i64 n124]) H (fun x e' H' => match x with | .normal => R10_Depth_aa0 R10_Depth_l0 n ((clean e' [0, 1, 7]).map (·.2)) H' K | x => K x (clean e' ((⟨[], [(0, [7])], []⟩ : Out).of x)) H') = R10_Depth_l0_b (R10_Depth_l0 (fun n1610 => K (.exit 0) [(7, .int .i64 n1610)] H) n) (fun n1610 => K (.exit 0) [(7, .int .i64 n1610)] H) k n122 n123 n124 := by kernel_rfl
theorem R10_Depth_j0 {R : Type} (k : Nat) : JS Try.prog 29 (R10_Depth_a0 R k k) [0, 1, 7] ⟨[], [(0, [7])], []⟩ (.loop (sel [1, 1, 1, 1, 0, 0, 0] (Try.f14.body.getD .skip))) :=
  loop_ok (nt := 29) (c := (sel [1, 1, 1, 1, 0, 0, 0] (Try.f14.body.getD .skip))) (C := R10_Depth_C R k) (an := An) (t := (.seq (.seq (.reg [0, 1, 7, 19] []) (.cond .leaf .leaf)) (.node (.seq (.reg [0, 1, 7] []) (.reg [0, 1, 7] []))))) (ic := R10_Depth_i0) (R10_Depth_S R k) (R10_Depth_J R k) (by kernel_rfl) (And.intro (And.intro True.intro (And.intro True.intro True.intro)) (And.intro True.intro True.intro)) (R10_Depth_a0 R k) (fun vals H K => by unfold R10_Depth_a0 R10_Depth_aa0; split <;> rfl)
    (fun n vals H K r h => by
      unfold R10_Depth_a0 R10_Depth_aa0 at h
      split at h <;> first | (cases h; done) | exact Eq.trans (R10_Depth_e0 (R10_New k) (R10_Depth_l0 k) k n _ _ _ H K) h) k
def R10_Depth_ca {R : Type} (f : R10_Depth_t R) (args : List Value) (H : Heap) (K : Value → Heap → Option R) : Option R :=
  match args with
  | [.int .i64 n117, .int .i64 n118] => f n117 n118 H (fun n1611 H => K (.int .i64 n1611) H)
  | _ => none
def R10_Depth_c (R : Type) (k : Nat) (args : List Value) (H : Heap) (K : Value → Heap → Option R) : Option R := R10_Depth_ca (R10_Depth k) args H K
theorem R10_Depth_e {R : Type} (R10_New : R10_New_t R) (R10_Depth_l0 : R10_Depth_l0_t R) (k : Nat) (n117 : Int) (n118 : Int) (H : Heap) (K : Value → Heap → Option R) : evF (R10_Depth_Ct R10_New) (R10_Depth_Jt k R10_Depth_l0) R10_Depth_f [.int .i64 n117, .int .i64 n118] H K = R10_Depth_b R10_New R10_Depth_l0 k n117 n118 H (fun n1611 H => K (.int .i64 n1611) H) := by kernel_rfl
theorem R10_Depth_cs (R : Type) (k : Nat) : ∀ args H K r, R10_Depth_c R k args H K = some r → ∃ v H', Tri Try.prog 14 args H v H' ∧ K v H' = some r := by
  intro args H K r h
  unfold R10_Depth_c R10_Depth_ca at h
  split at h
  · exact evF_ok (C := R10_Depth_C R k) (an := An) (t := R10_Depth_at) (fn := Try.f14) (c := (Try.f14.body.getD .skip)) (ifn := R10_Depth_f) (R10_Depth_S R k) (R10_Depth_J R k) Try.func14 (by kernel_rfl) (by kernel_rfl) (And.intro True.intro (And.intro True.intro (And.intro (And.intro True.intro (And.intro (And.intro True.intro True.intro) True.intro)) (And.intro True.intro (And.intro (R10_Depth_j0 k) (And.intro True.intro True.intro)))))) rfl (Eq.trans (R10_Depth_e (R10_New k) (R10_Depth_l0 k) k _ _ H K) h)
  · cases h
/-! ### L_TagtreeSizes: function 3 -/
abbrev L_TagtreeSizes_t (R : Type) : Type := Int → Int → Heap → (Bool → Heap → Option R) → Option R

def L_TagtreeSizes_b {R : Type} (tagtree_New : tagtree_New_t R) (R10_New : R10_New_t R) (tagtree_Depth : tagtree_Depth_t R) (R10_Depth : R10_Depth_t R) (L_exampleHoldsq : L_exampleHoldsq_t R) (k : Nat) (n1 : Int) (n2 : Int) (H : Heap) (K : Bool → Heap → Option R) : Option R :=
tagtree_New n1 n2 H fun p3 n4 H5 =>
R10_New n1 n2 H5 fun p6 n7 H8 =>
bif (n4 == n7) then (bif (p3.isSome == (n4 == 0)) then (tagtree_Depth n1 n2 fun n9 =>
R10_Depth n1 n2 H8 fun n10 H11 =>
bif (n9 == n10) then (L_exampleHoldsq fun t12 =>
K t12 H11)
 else (K false H11))
 else (K false H8))
 else (K false H8)

def L_TagtreeSizes {R : Type} (k : Nat) (n1 : Int) (n2 : Int) (H : Heap) (K : Bool → Heap → Option R) : Option R := L_TagtreeSizes_b (tagtree_New k) (R10_New k) (tagtree_Depth k) (R10_Depth k) L_exampleHoldsq k n1 n2 H K

def L_TagtreeSizes_Ct {R : Type} (tagtree_New : tagtree_New_t R) (R10_New : R10_New_t R) (tagtree_Depth : tagtree_Depth_t R) (R10_Depth : R10_Depth_t R) (L_exampleHoldsq : L_exampleHoldsq_t R) : Tab R := tcons 11 (tagtree_New_ca tagtree_New) <| tcons 12 (R10_New_ca R10_New) <| tcons 13 (tagtree_Depth_ca tagtree_Depth) <| tcons 14 (R10_Depth_ca R10_Depth) <| tcons 15 (L_exampleHoldsq_ca L_exampleHoldsq) <| fun _ _ _ _ => none
def L_TagtreeSizes_C (R : Type) (k : Nat) : Tab R := L_TagtreeSizes_Ct (tagtree_New k) (R10_New k) (tagtree_Depth k) (R10_Depth k) L_exampleHoldsq
theorem L_TagtreeSizes_S (R : Type) (k : Nat) : CSound Try.prog (L_TagtreeSizes_C R k) := csound_cons (tagtree_New_cs R k) <| csound_cons (R10_New_cs R k) <| csound_cons (tagtree_Depth_cs R k) <| csound_cons (R10_Depth_cs R k) <| csound_cons (L_exampleHoldsq_cs R k) <| csound_nil
def L_TagtreeSizes_Jt {R : Type} (k : Nat) : JTab R := fun _ _ _ _ => none
def L_TagtreeSizes_J (R : Type) (k : Nat) : JTab R := L_TagtreeSizes_Jt k
def L_TagtreeSizes_at : AT := (.seq (.reg [0, 1] []) (.seq (.reg [0, 1, 5, 6] []) (.seq (.reg [0, 1, 5, 6, 8] []) (.seq (.reg [4] []) .leaf))))
def L_TagtreeSizes_f : IFn := ⟨43, [.t 4], (.seq (.reg [⟨some 4, .mov (.c (Go.Value.bool false)), none⟩] [0, 1]) (.seq (.reg [⟨some 10, .mov (.t 0), none⟩,
 ⟨some 11, .mov (.t 1), none⟩,
 ⟨some 12, .call 11 [(.t 10), (.t 11)] (.tup [(.sc .ptr), (.sc (.int .i64))]), none⟩,
 ⟨some 9, .mov (.t 12), none⟩,
 ⟨some 13, .ext 0 (.t 9), none⟩,
 ⟨some 14, .ext 1 (.t 9), none⟩,
 ⟨some 5, .mov (.t 13), none⟩,
 ⟨some 6, .mov (.t 14), none⟩] [0, 1, 5, 6]) (.seq (.reg [⟨some 16, .mov (.t 0), none⟩,
 ⟨some 17, .mov (.t 1), none⟩,
 ⟨some 18, .call 12 [(.t 16), (.t 17)] (.tup [(.sc .ptr), (.sc (.int .i64))]), none⟩,
 ⟨some 15, .mov (.t 18), none⟩,
 ⟨some 19, .ext 0 (.t 15), none⟩,
 ⟨some 20, .ext 1 (.t 15), none⟩,
 ⟨some 7, .mov (.t 19), none⟩,
 ⟨some 8, .mov (.t 20), none⟩] [0, 1, 5, 6, 8]) (.seq (.reg [⟨some 21, .mov (.t 6), none⟩,
 ⟨some 22, .mov (.t 8), none⟩,
 ⟨some 23, .cmp .eql (.t 21) (.t 22), none⟩,
 ⟨some 24, .mov (.t 23), none⟩,
 ⟨some 25, .mov (.t 5), some (24, true)⟩,
 ⟨some 26, .eqnil (.t 25) true 0, some (24, true)⟩,
 ⟨some 27, .mov (.t 6), some (24, true)⟩,
 ⟨some 28, .cmp .eql (.t 27) (.c (Go.Value.int Go.IntKind.i64 0)), some (24, true)⟩,
 ⟨some 29, .eqb (.t 26) (.t 28) false, some (24, true)⟩,
 ⟨some 30, .pick (.t 24) (.t 29) (.c (Go.Value.bool false)), none⟩,
 ⟨some 31, .mov (.t 30), none⟩,
 ⟨some 32, .mov (.t 0), some (31, true)⟩,
 ⟨some 33, .mov (.t 1), some (31, true)⟩,
 ⟨some 34, .call 13 [(.t 32), (.t 33)] (.one (.sc (.int .i64))), some (31, true)⟩,
 ⟨some 35, .mov (.t 0), some (31, true)⟩,
 ⟨some 36, .mov (.t 1), some (31, true)⟩,
 ⟨some 37, .call 14 [(.t 35), (.t 36)] (.one (.sc (.int .i64))), some (31, true)⟩,
 ⟨some 38, .cmp .eql (.t 34) (.t 37), some (31, true)⟩,
 ⟨some 39, .pick (.t 31) (.t 38) (.c (Go.Value.bool false)), none⟩,
 ⟨some 40, .mov (.t 39), none⟩,
 ⟨some 41, .call 15 [] (.one (.sc .bool)), some (40, true)⟩,
 ⟨some 42, .pick (.t 40) (.t 41) (.c (Go.Value.bool false)), none⟩,
 ⟨some 4, .mov (.t 42), none⟩] [4]) .ret))))⟩
def L_TagtreeSizes_ca {R : Type} (f : L_TagtreeSizes_t R) (args : List Value) (H : Heap) (K : Value → Heap → Option R) : Option R :=
  match args with
  | [.int .i64 n1, .int .i64 n2] => f n1 n2 H (fun t1612 H => K (.bool t1612) H)
  | _ => none
def L_TagtreeSizes_c (R : Type) (k : Nat) (args : List Value) (H : Heap) (K : Value → Heap → Option R) : Option R := L_TagtreeSizes_ca (L_TagtreeSizes k) args H K
theorem L_TagtreeSizes_e {R : Type} (tagtree_New : tagtree_New_t R) (R10_New : R10_New_t R) (tagtree_Depth : tagtree_Depth_t R) (R10_Depth : R10_Depth_t R) (L_exampleHoldsq : L_exampleHoldsq_t R) (k : Nat) (n1 : Int) (n2 : Int) (H : Heap) (K : Value → Heap → Option R) : evF (L_TagtreeSizes_Ct tagtree_New R10_New tagtree_Depth R10_Depth L_exampleHoldsq) (L_TagtreeSizes_Jt k) L_TagtreeSizes_f [.int .i64 n1, .int .i64 n2] H K = L_TagtreeSizes_b tagtree_New R10_New tagtree_Depth R10_Depth L_exampleHoldsq k n1 n2 H (fun t1612 H => K (.bool t1612) H) := by kernel_rfl
theorem L_TagtreeSizes_cs (R : Type) (k : Nat) : ∀ args H K r, L_TagtreeSizes_c R k args H K = some r → ∃ v H', Tri Try.prog 3 args H v H' ∧ K v H' = some r := by
  intro args H K r h
  unfold L_TagtreeSizes_c L_TagtreeSizes_ca at h
  split at h
  · exact evF_ok (C := L_TagtreeSizes_C R k) (an := An) (t := L_TagtreeSizes_at) (fn := Try.f3) (c := (Try.f3.body.getD .skip)) (ifn := L_TagtreeSizes_f) (L_TagtreeSizes_S R k) (L_TagtreeSizes_J R k) Try.func3 (by kernel_rfl) (by kernel_rfl) (And.intro True.intro (And.intro True.intro (And.intro True.intro (And.intro True.intro True.intro)))) rfl (Eq.trans (L_TagtreeSizes_e (tagtree_New k) (R10_New k) (tagtree_Depth k) (R10_Depth k) L_exampleHoldsq k _ _ H K) h)
  · cases h
end Go.Proofs.Ytblkejnciinaeaa.Sh
