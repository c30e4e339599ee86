/- Lean functions that stand for Go's, over an explicit heap, and the proofs that they do (written by this claim's program shallow.py). -/
import Derived.Test.YtoeoolnkndkefaaSh0
import Derived.Test.YtoeoolnkndkefaaSh2
import Derived.Test.YtoeoolnkndkefaaSh4
import Derived.Test.YtoeoolnkndkefaaSh9
import Derived.Test.YtoeoolnkndkefaaSh11
set_option maxRecDepth 100000
set_option linter.unusedVariables false
set_option linter.unusedSimpArgs false
namespace Go.Proofs.Ytoeoolnkndkefaa.Sh
open Go.Proofs.Ytoeoolnkndkefaa.FW
/-! ### R07_Apply: function 19 -/
def R07_Apply_b {R : Type} (R07_errors : Int → Option Addr → Nat → Nat → Int → Heap → (Int → Heap → Option R) → Option R) (R07_each : Int → Option Addr → Nat → Nat → Bool → Heap → (Option Addr → Nat → Nat → Heap → Option R) → Option R) (k : Nat) (n117 : Int) (q118 : Option Addr) (l119 : Nat) (c120 : Nat) (H : Heap) (K : Option Addr → Nat → Nat → Int → Heap → Option R) : Option R :=
R07_errors n117 q118 l119 c120 1048576 H fun n121 H122 =>
bif (n121 != 0) then (K none 0 0 n121 H122)
 else (R07_each n117 q118 l119 c120 false H122 fun q123 l124 c125 H126 =>
K q123 l124 c125 0 H126)

def R07_Apply {R : Type} (k : Nat) (n117 : Int) (q118 : Option Addr) (l119 : Nat) (c120 : Nat) (H : Heap) (K : Option Addr → Nat → Nat → Int → Heap → Option R) : Option R := R07_Apply_b (R07_errors k) (R07_each k) k n117 q118 l119 c120 H K

def R07_Apply_Ct {R : Type} (R07_errors : Int → Option Addr → Nat → Nat → Int → Heap → (Int → Heap → Option R) → Option R) (R07_each : Int → Option Addr → Nat → Nat → Bool → Heap → (Option Addr → Nat → Nat → Heap → Option R) → Option R) : Tab R := tcons 40 (R07_errors_ca R07_errors) <| tcons 41 (R07_each_ca R07_each) <| fun _ _ _ _ => none
def R07_Apply_C (R : Type) (k : Nat) : Tab R := R07_Apply_Ct (R07_errors k) (R07_each k)
theorem R07_Apply_S (R : Type) (k : Nat) : CSound Try.prog (R07_Apply_C R k) := csound_cons (R07_errors_cs R k) <| csound_cons (R07_each_cs R k) <| csound_nil
def R07_Apply_Jt {R : Type} (k : Nat) : JTab R := fun _ _ _ _ => none
def R07_Apply_J (R : Type) (k : Nat) : JTab R := R07_Apply_Jt k
def R07_Apply_at : AT := (.seq (.reg [0, 1] []) (.seq (.seq (.reg [0, 1, 6] []) (.seq (.reg [0, 1, 6, 11] []) (.cond (.seq (.reg [4, 5] []) .leaf) .leaf))) (.seq (.reg [4, 5] []) .leaf)))
def R07_Apply_f : IFn := ⟨16, [.t 4, .t 5], (.seq (.reg [⟨some 4, .mov (.c (Go.Value.slice none 0 0)), none⟩,
 ⟨some 5, .mov (.c (Go.Value.int Go.IntKind.i64 0)), none⟩] [0, 1]) (.seq (.seq (.reg [⟨some 7, .mov (.t 0), none⟩,
 ⟨some 8, .mov (.t 1), none⟩,
 ⟨some 9, .call 40 [(.t 7), (.t 8), (.c (Go.Value.int Go.IntKind.i64 1048576))] (.one (.sc (.int .i64))), none⟩,
 ⟨some 6, .mov (.t 9), none⟩] [0, 1, 6]) (.seq (.reg [⟨some 10, .mov (.t 6), none⟩,
 ⟨some 11, .cmp .neq (.t 10) (.c (Go.Value.int Go.IntKind.i64 0)), none⟩] [0, 1, 6, 11]) (.cond (.t 11) (.seq (.reg [⟨some 12, .mov (.t 6), none⟩,
 ⟨some 4, .mov (.c (Go.Value.slice none 0 0)), none⟩,
 ⟨some 5, .mov (.t 12), none⟩] [4, 5]) .ret) .skip))) (.seq (.reg [⟨some 13, .mov (.t 0), none⟩,
 ⟨some 14, .mov (.t 1), none⟩,
 ⟨some 15, .call 41 [(.t 13), (.t 14), (.c (Go.Value.bool false))] (.one (.sc .slc)), none⟩,
 ⟨some 4, .mov (.t 15), none⟩,
 ⟨some 5, .mov (.c (Go.Value.int Go.IntKind.i64 0)), none⟩] [4, 5]) .ret)))⟩
def R07_Apply_ca {R : Type} (f : Int → Option Addr → Nat → Nat → Heap → (Option Addr → Nat → Nat → Int → Heap → Option R) → Option R) (args : List Value) (H : Heap) (K : Value → Heap → Option R) : Option R :=
  match args with
  | [.int .i64 n117, .slice q118 l119 c120] => f n117 q118 l119 c120 H (fun q1231 l1232 c1233 n1234 H => K (.tuple ⟨[.slice q1231 l1232 c1233, .int .i64 n1234]⟩) H)
  | _ => none
def R07_Apply_c (R : Type) (k : Nat) (args : List Value) (H : Heap) (K : Value → Heap → Option R) : Option R := R07_Apply_ca (R07_Apply k) args H K
theorem R07_Apply_e {R : Type} (R07_errors : Int → Option Addr → Nat → Nat → Int → Heap → (Int → Heap → Option R) → Option R) (R07_each : Int → Option Addr → Nat → Nat → Bool → Heap → (Option Addr → Nat → Nat → Heap → Option R) → Option R) (k : Nat) (n117 : Int) (q118 : Option Addr) (l119 : Nat) (c120 : Nat) (H : Heap) (K : Value → Heap → Option R) : evF (R07_Apply_Ct R07_errors R07_each) (R07_Apply_Jt k) R07_Apply_f [.int .i64 n117, .slice q118 l119 c120] H K = R07_Apply_b R07_errors R07_each k n117 q118 l119 c120 H (fun q1231 l1232 c1233 n1234 H => K (.tuple ⟨[.slice q1231 l1232 c1233, .int .i64 n1234]⟩) H) := by kernel_rfl
theorem R07_Apply_cs (R : Type) (k : Nat) : ∀ args H K r, R07_Apply_c R k args H K = some r → ∃ v H', Tri Try.prog 19 args H v H' ∧ K v H' = some r := by
  intro args H K r h
  unfold R07_Apply_c R07_Apply_ca at h
  split at h
  · exact evF_ok (C := R07_Apply_C R k) (an := An) (t := R07_Apply_at) (fn := Try.f19) (c := (Try.f19.body.getD .skip)) (ifn := R07_Apply_f) (R07_Apply_S R k) (R07_Apply_J R k) Try.func19 (by kernel_rfl) (by kernel_rfl) (And.intro True.intro (And.intro (And.intro True.intro (And.intro True.intro (And.intro (And.intro True.intro True.intro) True.intro))) (And.intro True.intro True.intro))) rfl (Eq.trans (R07_Apply_e (R07_errors k) (R07_each k) k _ _ _ _ H K) h)
  · cases h
/-! ### L_ColorApplies: function 4 -/
def L_ColorApplies_b {R : Type} (L_few : Option Addr → Nat → Nat → Heap → (Bool → Heap → Option R) → Option R) (L_exampleHoldsq : (Bool → Option R) → Option R) (color_Apply : Int → Option Addr → Nat → Nat → Heap → (Option Addr → Nat → Nat → Int → Heap → Option R) → Option R) (R07_Apply : Int → Option Addr → Nat → Nat → Heap → (Option Addr → Nat → Nat → Int → Heap → Option R) → Option R) (R02_SameAll : Option Addr → Nat → Nat → Option Addr → Nat → Nat → Heap → (Bool → Heap → Option R) → Option R) (k : Nat) (n77 : Int) (q78 : Option Addr) (l79 : Nat) (c80 : Nat) (H : Heap) (K : Bool → Heap → Option R) : Option R :=
L_few q78 l79 c80 H fun t81 H82 =>
bif (!t81) then (L_exampleHoldsq fun t83 =>
K t83 H82)
 else (color_Apply n77 q78 l79 c80 H82 fun q84 l85 c86 n87 H88 =>
R07_Apply n77 q78 l79 c80 H88 fun q89 l90 c91 n92 H93 =>
bif (n87 == n92) then (R02_SameAll q84 l85 c86 q89 l90 c91 H93 fun t94 H95 =>
bif t94 then (L_exampleHoldsq fun t96 =>
K t96 H95)
 else (K false H95))
 else (K false H93))

def L_ColorApplies {R : Type} (k : Nat) (n77 : Int) (q78 : Option Addr) (l79 : Nat) (c80 : Nat) (H : Heap) (K : Bool → Heap → Option R) : Option R := L_ColorApplies_b (L_few k) L_exampleHoldsq (color_Apply k) (R07_Apply k) (R02_SameAll k) k n77 q78 l79 c80 H K

def L_ColorApplies_Ct {R : Type} (L_few : Option Addr → Nat → Nat → Heap → (Bool → Heap → Option R) → Option R) (L_exampleHoldsq : (Bool → Option R) → Option R) (color_Apply : Int → Option Addr → Nat → Nat → Heap → (Option Addr → Nat → Nat → Int → Heap → Option R) → Option R) (R07_Apply : Int → Option Addr → Nat → Nat → Heap → (Option Addr → Nat → Nat → Int → Heap → Option R) → Option R) (R02_SameAll : Option Addr → Nat → Nat → Option Addr → Nat → Nat → Heap → (Bool → Heap → Option R) → Option R) : Tab R := tcons 17 (L_few_ca L_few) <| tcons 12 (L_exampleHoldsq_ca L_exampleHoldsq) <| tcons 18 (color_Apply_ca color_Apply) <| tcons 19 (R07_Apply_ca R07_Apply) <| tcons 20 (R02_SameAll_ca R02_SameAll) <| fun _ _ _ _ => none
def L_ColorApplies_C (R : Type) (k : Nat) : Tab R := L_ColorApplies_Ct (L_few k) L_exampleHoldsq (color_Apply k) (R07_Apply k) (R02_SameAll k)
theorem L_ColorApplies_S (R : Type) (k : Nat) : CSound Try.prog (L_ColorApplies_C R k) := csound_cons (L_few_cs R k) <| csound_cons (L_exampleHoldsq_cs R k) <| csound_cons (color_Apply_cs R k) <| csound_cons (R07_Apply_cs R k) <| csound_cons (R02_SameAll_cs R k) <| csound_nil
def L_ColorApplies_Jt {R : Type} (k : Nat) : JTab R := fun _ _ _ _ => none
def L_ColorApplies_J (R : Type) (k : Nat) : JTab R := L_ColorApplies_Jt k
def L_ColorApplies_at : AT := (.seq (.reg [0, 1] []) (.seq (.seq (.reg [0, 1, 11] []) (.cond (.seq (.reg [4] []) .leaf) .leaf)) (.seq (.reg [0, 1, 5, 6] []) (.seq (.reg [5, 6, 7, 8] []) (.seq (.reg [4] []) .leaf)))))
def L_ColorApplies_f : IFn := ⟨36, [.t 4], (.seq (.reg [⟨some 4, .mov (.c (Go.Value.bool false)), none⟩] [0, 1]) (.seq (.seq (.reg [⟨some 9, .mov (.t 1), none⟩,
 ⟨some 10, .call 17 [(.t 9)] (.one (.sc .bool)), none⟩,
 ⟨some 11, .lnot (.t 10), none⟩] [0, 1, 11]) (.cond (.t 11) (.seq (.reg [⟨some 12, .call 12 [] (.one (.sc .bool)), none⟩,
 ⟨some 4, .mov (.t 12), none⟩] [4]) .ret) .skip)) (.seq (.reg [⟨some 14, .mov (.t 0), none⟩,
 ⟨some 15, .mov (.t 1), none⟩,
 ⟨some 16, .call 18 [(.t 14), (.t 15)] (.tup [(.sc .slc), (.sc (.int .i64))]), none⟩,
 ⟨some 13, .mov (.t 16), none⟩,
 ⟨some 17, .ext 0 (.t 13), none⟩,
 ⟨some 18, .ext 1 (.t 13), none⟩,
 ⟨some 5, .mov (.t 17), none⟩,
 ⟨some 6, .mov (.t 18), none⟩] [0, 1, 5, 6]) (.seq (.reg [⟨some 20, .mov (.t 0), none⟩,
 ⟨some 21, .mov (.t 1), none⟩,
 ⟨some 22, .call 19 [(.t 20), (.t 21)] (.tup [(.sc .slc), (.sc (.int .i64))]), none⟩,
 ⟨some 19, .mov (.t 22), none⟩,
 ⟨some 23, .ext 0 (.t 19), none⟩,
 ⟨some 24, .ext 1 (.t 19), none⟩,
 ⟨some 7, .mov (.t 23), none⟩,
 ⟨some 8, .mov (.t 24), none⟩] [5, 6, 7, 8]) (.seq (.reg [⟨some 25, .mov (.t 6), none⟩,
 ⟨some 26, .mov (.t 8), none⟩,
 ⟨some 27, .cmp .eql (.t 25) (.t 26), none⟩,
 ⟨some 28, .mov (.t 27), none⟩,
 ⟨some 29, .mov (.t 5), some (28, true)⟩,
 ⟨some 30, .mov (.t 7), some (28, true)⟩,
 ⟨some 31, .call 20 [(.t 29), (.t 30)] (.one (.sc .bool)), some (28, true)⟩,
 ⟨some 32, .pick (.t 28) (.t 31) (.c (Go.Value.bool false)), none⟩,
 ⟨some 33, .mov (.t 32), none⟩,
 ⟨some 34, .call 12 [] (.one (.sc .bool)), some (33, true)⟩,
 ⟨some 35, .pick (.t 33) (.t 34) (.c (Go.Value.bool false)), none⟩,
 ⟨some 4, .mov (.t 35), none⟩] [4]) .ret)))))⟩
def L_ColorApplies_ca {R : Type} (f : Int → Option Addr → Nat → Nat → Heap → (Bool → Heap → Option R) → Option R) (args : List Value) (H : Heap) (K : Value → Heap → Option R) : Option R :=
  match args with
  | [.int .i64 n77, .slice q78 l79 c80] => f n77 q78 l79 c80 H (fun t1235 H => K (.bool t1235) H)
  | _ => none
def L_ColorApplies_c (R : Type) (k : Nat) (args : List Value) (H : Heap) (K : Value → Heap → Option R) : Option R := L_ColorApplies_ca (L_ColorApplies k) args H K
theorem L_ColorApplies_e {R : Type} (L_few : Option Addr → Nat → Nat → Heap → (Bool → Heap → Option R) → Option R) (L_exampleHoldsq : (Bool → Option R) → Option R) (color_Apply : Int → Option Addr → Nat → Nat → Heap → (Option Addr → Nat → Nat → Int → Heap → Option R) → Option R) (R07_Apply : Int → Option Addr → Nat → Nat → Heap → (Option Addr → Nat → Nat → Int → Heap → Option R) → Option R) (R02_SameAll : Option Addr → Nat → Nat → Option Addr → Nat → Nat → Heap → (Bool → Heap → Option R) → Option R) (k : Nat) (n77 : Int) (q78 : Option Addr) (l79 : Nat) (c80 : Nat) (H : Heap) (K : Value → Heap → Option R) : evF (L_ColorApplies_Ct L_few L_exampleHoldsq color_Apply R07_Apply R02_SameAll) (L_ColorApplies_Jt k) L_ColorApplies_f [.int .i64 n77, .slice q78 l79 c80] H K = L_ColorApplies_b L_few L_exampleHoldsq color_Apply R07_Apply R02_SameAll k n77 q78 l79 c80 H (fun t1235 H => K (.bool t1235) H) := by kernel_rfl
theorem L_ColorApplies_cs (R : Type) (k : Nat) : ∀ args H K r, L_ColorApplies_c R k args H K = some r → ∃ v H', Tri Try.prog 4 args H v H' ∧ K v H' = some r := by
  intro args H K r h
  unfold L_ColorApplies_c L_ColorApplies_ca at h
  split at h
  · exact evF_ok (C := L_ColorApplies_C R k) (an := An) (t := L_ColorApplies_at) (fn := Try.f4) (c := (Try.f4.body.getD .skip)) (ifn := L_ColorApplies_f) (L_ColorApplies_S R k) (L_ColorApplies_J R k) Try.func4 (by kernel_rfl) (by kernel_rfl) (And.intro True.intro (And.intro (And.intro True.intro (And.intro (And.intro True.intro True.intro) True.intro)) (And.intro True.intro (And.intro True.intro (And.intro True.intro True.intro))))) rfl (Eq.trans (L_ColorApplies_e (L_few k) L_exampleHoldsq (color_Apply k) (R07_Apply k) (R02_SameAll k) k _ _ _ _ H K) h)
  · cases h
end Go.Proofs.Ytoeoolnkndkefaa.Sh
