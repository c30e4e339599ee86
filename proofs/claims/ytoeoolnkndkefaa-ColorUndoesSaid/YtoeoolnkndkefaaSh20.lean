/- Lean functions that stand for Go's, over an explicit heap, and the proofs that they do (written by this claim's program shallow.py). -/
import Derived.Test.YtoeoolnkndkefaaSh0
import Derived.Test.YtoeoolnkndkefaaSh2
import Derived.Test.YtoeoolnkndkefaaSh4
import Derived.Test.YtoeoolnkndkefaaSh9
import Derived.Test.YtoeoolnkndkefaaSh11
import Derived.Test.YtoeoolnkndkefaaSh13
set_option maxRecDepth 100000
set_option linter.unusedVariables false
set_option linter.unusedSimpArgs false
namespace Go.Proofs.Ytoeoolnkndkefaa.Sh
open Go.Proofs.Ytoeoolnkndkefaa.FW
/-! ### R07_Undo: function 33 -/
def R07_Undo_b {R : Type} (R07_errors : Int → Option Addr → Nat → Nat → Int → Heap → (Int → Heap → Option R) → Option R) (R07_each : Int → Option Addr → Nat → Nat → Bool → Heap → (Option Addr → Nat → Nat → Heap → Option R) → Option R) (k : Nat) (n920 : Int) (q921 : Option Addr) (l922 : Nat) (c923 : Nat) (H : Heap) (K : Option Addr → Nat → Nat → Int → Heap → Option R) : Option R :=
R07_errors n920 q921 l922 c923 281474976710656 H fun n924 H925 =>
bif (n924 != 0) then (K none 0 0 n924 H925)
 else (R07_each n920 q921 l922 c923 true H925 fun q926 l927 c928 H929 =>
K q926 l927 c928 0 H929)

def R07_Undo {R : Type} (k : Nat) (n920 : Int) (q921 : Option Addr) (l922 : Nat) (c923 : Nat) (H : Heap) (K : Option Addr → Nat → Nat → Int → Heap → Option R) : Option R := R07_Undo_b (R07_errors k) (R07_each k) k n920 q921 l922 c923 H K

def R07_Undo_Ct {R : Type} (R07_errors : Int → Option Addr → Nat → Nat → Int → Heap → (Int → Heap → Option R) → Option R) (R07_each : Int → Option Addr → Nat → Nat → Bool → Heap → (Option Addr → Nat → Nat → Heap → Option R) → Option R) : Tab R := tcons 40 (R07_errors_ca R07_errors) <| tcons 41 (R07_each_ca R07_each) <| fun _ _ _ _ => none
def R07_Undo_C (R : Type) (k : Nat) : Tab R := R07_Undo_Ct (R07_errors k) (R07_each k)
theorem R07_Undo_S (R : Type) (k : Nat) : CSound Try.prog (R07_Undo_C R k) := csound_cons (R07_errors_cs R k) <| csound_cons (R07_each_cs R k) <| csound_nil
def R07_Undo_Jt {R : Type} (k : Nat) : JTab R := fun _ _ _ _ => none
def R07_Undo_J (R : Type) (k : Nat) : JTab R := R07_Undo_Jt k
def R07_Undo_at : AT := (.seq (.reg [0, 1] []) (.seq (.seq (.reg [0, 1, 6] []) (.seq (.reg [0, 1, 6, 11] []) (.cond (.seq (.reg [4, 5] []) .leaf) .leaf))) (.seq (.reg [4, 5] []) .leaf)))
def R07_Undo_f : IFn := ⟨16, [.t 4, .t 5], (.seq (.reg [⟨some 4, .mov (.c (Go.Value.slice none 0 0)), none⟩,
 ⟨some 5, .mov (.c (Go.Value.int Go.IntKind.i64 0)), none⟩] [0, 1]) (.seq (.seq (.reg [⟨some 7, .mov (.t 0), none⟩,
 ⟨some 8, .mov (.t 1), none⟩,
 ⟨some 9, .call 40 [(.t 7), (.t 8), (.c (Go.Value.int Go.IntKind.i64 281474976710656))] (.one (.sc (.int .i64))), none⟩,
 ⟨some 6, .mov (.t 9), none⟩] [0, 1, 6]) (.seq (.reg [⟨some 10, .mov (.t 6), none⟩,
 ⟨some 11, .cmp .neq (.t 10) (.c (Go.Value.int Go.IntKind.i64 0)), none⟩] [0, 1, 6, 11]) (.cond (.t 11) (.seq (.reg [⟨some 12, .mov (.t 6), none⟩,
 ⟨some 4, .mov (.c (Go.Value.slice none 0 0)), none⟩,
 ⟨some 5, .mov (.t 12), none⟩] [4, 5]) .ret) .skip))) (.seq (.reg [⟨some 13, .mov (.t 0), none⟩,
 ⟨some 14, .mov (.t 1), none⟩,
 ⟨some 15, .call 41 [(.t 13), (.t 14), (.c (Go.Value.bool true))] (.one (.sc .slc)), none⟩,
 ⟨some 4, .mov (.t 15), none⟩,
 ⟨some 5, .mov (.c (Go.Value.int Go.IntKind.i64 0)), none⟩] [4, 5]) .ret)))⟩
def R07_Undo_ca {R : Type} (f : Int → Option Addr → Nat → Nat → Heap → (Option Addr → Nat → Nat → Int → Heap → Option R) → Option R) (args : List Value) (H : Heap) (K : Value → Heap → Option R) : Option R :=
  match args with
  | [.int .i64 n920, .slice q921 l922 c923] => f n920 q921 l922 c923 H (fun q1395 l1396 c1397 n1398 H => K (.tuple ⟨[.slice q1395 l1396 c1397, .int .i64 n1398]⟩) H)
  | _ => none
def R07_Undo_c (R : Type) (k : Nat) (args : List Value) (H : Heap) (K : Value → Heap → Option R) : Option R := R07_Undo_ca (R07_Undo k) args H K
theorem R07_Undo_e {R : Type} (R07_errors : Int → Option Addr → Nat → Nat → Int → Heap → (Int → Heap → Option R) → Option R) (R07_each : Int → Option Addr → Nat → Nat → Bool → Heap → (Option Addr → Nat → Nat → Heap → Option R) → Option R) (k : Nat) (n920 : Int) (q921 : Option Addr) (l922 : Nat) (c923 : Nat) (H : Heap) (K : Value → Heap → Option R) : evF (R07_Undo_Ct R07_errors R07_each) (R07_Undo_Jt k) R07_Undo_f [.int .i64 n920, .slice q921 l922 c923] H K = R07_Undo_b R07_errors R07_each k n920 q921 l922 c923 H (fun q1395 l1396 c1397 n1398 H => K (.tuple ⟨[.slice q1395 l1396 c1397, .int .i64 n1398]⟩) H) := by kernel_rfl
theorem R07_Undo_cs (R : Type) (k : Nat) : ∀ args H K r, R07_Undo_c R k args H K = some r → ∃ v H', Tri Try.prog 33 args H v H' ∧ K v H' = some r := by
  intro args H K r h
  unfold R07_Undo_c R07_Undo_ca at h
  split at h
  · exact evF_ok (C := R07_Undo_C R k) (an := An) (t := R07_Undo_at) (fn := Try.f33) (c := (Try.f33.body.getD .skip)) (ifn := R07_Undo_f) (R07_Undo_S R k) (R07_Undo_J R k) Try.func33 (by kernel_rfl) (by kernel_rfl) (And.intro True.intro (And.intro (And.intro True.intro (And.intro True.intro (And.intro (And.intro True.intro True.intro) True.intro))) (And.intro True.intro True.intro))) rfl (Eq.trans (R07_Undo_e (R07_errors k) (R07_each k) k _ _ _ _ H K) h)
  · cases h
/-! ### L_ColorUndoes: function 9 -/
def L_ColorUndoes_b {R : Type} (L_few : Option Addr → Nat → Nat → Heap → (Bool → Heap → Option R) → Option R) (L_exampleHoldsq : (Bool → Option R) → Option R) (color_Undo : Int → Option Addr → Nat → Nat → Heap → (Option Addr → Nat → Nat → Int → Heap → Option R) → Option R) (R07_Undo : Int → Option Addr → Nat → Nat → Heap → (Option Addr → Nat → Nat → Int → Heap → Option R) → Option R) (R02_SameAll : Option Addr → Nat → Nat → Option Addr → Nat → Nat → Heap → (Bool → Heap → Option R) → Option R) (k : Nat) (n894 : Int) (q895 : Option Addr) (l896 : Nat) (c897 : Nat) (H : Heap) (K : Bool → Heap → Option R) : Option R :=
L_few q895 l896 c897 H fun t898 H899 =>
bif (!t898) then (L_exampleHoldsq fun t900 =>
K t900 H899)
 else (color_Undo n894 q895 l896 c897 H899 fun q901 l902 c903 n904 H905 =>
R07_Undo n894 q895 l896 c897 H905 fun q906 l907 c908 n909 H910 =>
bif (n904 == n909) then (R02_SameAll q901 l902 c903 q906 l907 c908 H910 fun t911 H912 =>
bif t911 then (L_exampleHoldsq fun t913 =>
K t913 H912)
 else (K false H912))
 else (K false H910))

def L_ColorUndoes {R : Type} (k : Nat) (n894 : Int) (q895 : Option Addr) (l896 : Nat) (c897 : Nat) (H : Heap) (K : Bool → Heap → Option R) : Option R := L_ColorUndoes_b (L_few k) L_exampleHoldsq (color_Undo k) (R07_Undo k) (R02_SameAll k) k n894 q895 l896 c897 H K

def L_ColorUndoes_Ct {R : Type} (L_few : Option Addr → Nat → Nat → Heap → (Bool → Heap → Option R) → Option R) (L_exampleHoldsq : (Bool → Option R) → Option R) (color_Undo : Int → Option Addr → Nat → Nat → Heap → (Option Addr → Nat → Nat → Int → Heap → Option R) → Option R) (R07_Undo : Int → Option Addr → Nat → Nat → Heap → (Option Addr → Nat → Nat → Int → Heap → Option R) → Option R) (R02_SameAll : Option Addr → Nat → Nat → Option Addr → Nat → Nat → Heap → (Bool → Heap → Option R) → Option R) : Tab R := tcons 17 (L_few_ca L_few) <| tcons 12 (L_exampleHoldsq_ca L_exampleHoldsq) <| tcons 32 (color_Undo_ca color_Undo) <| tcons 33 (R07_Undo_ca R07_Undo) <| tcons 20 (R02_SameAll_ca R02_SameAll) <| fun _ _ _ _ => none
def L_ColorUndoes_C (R : Type) (k : Nat) : Tab R := L_ColorUndoes_Ct (L_few k) L_exampleHoldsq (color_Undo k) (R07_Undo k) (R02_SameAll k)
theorem L_ColorUndoes_S (R : Type) (k : Nat) : CSound Try.prog (L_ColorUndoes_C R k) := csound_cons (L_few_cs R k) <| csound_cons (L_exampleHoldsq_cs R k) <| csound_cons (color_Undo_cs R k) <| csound_cons (R07_Undo_cs R k) <| csound_cons (R02_SameAll_cs R k) <| csound_nil
def L_ColorUndoes_Jt {R : Type} (k : Nat) : JTab R := fun _ _ _ _ => none
def L_ColorUndoes_J (R : Type) (k : Nat) : JTab R := L_ColorUndoes_Jt k
def L_ColorUndoes_at : AT := (.seq (.reg [0, 1] []) (.seq (.seq (.reg [0, 1, 11] []) (.cond (.seq (.reg [4] []) .leaf) .leaf)) (.seq (.reg [0, 1, 5, 6] []) (.seq (.reg [5, 6, 7, 8] []) (.seq (.reg [4] []) .leaf)))))
def L_ColorUndoes_f : IFn := ⟨36, [.t 4], (.seq (.reg [⟨some 4, .mov (.c (Go.Value.bool false)), none⟩] [0, 1]) (.seq (.seq (.reg [⟨some 9, .mov (.t 1), none⟩,
 ⟨some 10, .call 17 [(.t 9)] (.one (.sc .bool)), none⟩,
 ⟨some 11, .lnot (.t 10), none⟩] [0, 1, 11]) (.cond (.t 11) (.seq (.reg [⟨some 12, .call 12 [] (.one (.sc .bool)), none⟩,
 ⟨some 4, .mov (.t 12), none⟩] [4]) .ret) .skip)) (.seq (.reg [⟨some 14, .mov (.t 0), none⟩,
 ⟨some 15, .mov (.t 1), none⟩,
 ⟨some 16, .call 32 [(.t 14), (.t 15)] (.tup [(.sc .slc), (.sc (.int .i64))]), none⟩,
 ⟨some 13, .mov (.t 16), none⟩,
 ⟨some 17, .ext 0 (.t 13), none⟩,
 ⟨some 18, .ext 1 (.t 13), none⟩,
 ⟨some 5, .mov (.t 17), none⟩,
 ⟨some 6, .mov (.t 18), none⟩] [0, 1, 5, 6]) (.seq (.reg [⟨some 20, .mov (.t 0), none⟩,
 ⟨some 21, .mov (.t 1), none⟩,
 ⟨some 22, .call 33 [(.t 20), (.t 21)] (.tup [(.sc .slc), (.sc (.int .i64))]), none⟩,
 ⟨some 19, .mov (.t 22), none⟩,
 ⟨some 23, .ext 0 (.t 19), none⟩,
 ⟨some 24, .ext 1 (.t 19), none⟩,
 ⟨some 7, .mov (.t 23), none⟩,
 ⟨some 8, .mov (.t 24), none⟩] [5, 6, 7, 8]) (.seq (.reg [⟨some 25, .mov (.t 6), none⟩,
 ⟨some 26, .mov (.t 8), none⟩,
 ⟨some 27, .cmp .eql (.t 25) (.t 26), none⟩,
 ⟨some 28, .mov (.t 27), none⟩,
 ⟨some 29, .mov (.t 5), some (28, true)⟩,
 ⟨some 30, .mov (.t 7), some (28, true)⟩,
 ⟨some 31, .call 20 [(.t 29), (.t 30)] (.one (.sc .bool)), some (28, true)⟩,
 ⟨some 32, .pick (.t 28) (.t 31) (.c (Go.Value.bool false)), none⟩,
 ⟨some 33, .mov (.t 32), none⟩,
 ⟨some 34, .call 12 [] (.one (.sc .bool)), some (33, true)⟩,
 ⟨some 35, .pick (.t 33) (.t 34) (.c (Go.Value.bool false)), none⟩,
 ⟨some 4, .mov (.t 35), none⟩] [4]) .ret)))))⟩
def L_ColorUndoes_ca {R : Type} (f : Int → Option Addr → Nat → Nat → Heap → (Bool → Heap → Option R) → Option R) (args : List Value) (H : Heap) (K : Value → Heap → Option R) : Option R :=
  match args with
  | [.int .i64 n894, .slice q895 l896 c897] => f n894 q895 l896 c897 H (fun t1399 H => K (.bool t1399) H)
  | _ => none
def L_ColorUndoes_c (R : Type) (k : Nat) (args : List Value) (H : Heap) (K : Value → Heap → Option R) : Option R := L_ColorUndoes_ca (L_ColorUndoes k) args H K
theorem L_ColorUndoes_e {R : Type} (L_few : Option Addr → Nat → Nat → Heap → (Bool → Heap → Option R) → Option R) (L_exampleHoldsq : (Bool → Option R) → Option R) (color_Undo : Int → Option Addr → Nat → Nat → Heap → (Option Addr → Nat → Nat → Int → Heap → Option R) → Option R) (R07_Undo : Int → Option Addr → Nat → Nat → Heap → (Option Addr → Nat → Nat → Int → Heap → Option R) → Option R) (R02_SameAll : Option Addr → Nat → Nat → Option Addr → Nat → Nat → Heap → (Bool → Heap → Option R) → Option R) (k : Nat) (n894 : Int) (q895 : Option Addr) (l896 : Nat) (c897 : Nat) (H : Heap) (K : Value → Heap → Option R) : evF (L_ColorUndoes_Ct L_few L_exampleHoldsq color_Undo R07_Undo R02_SameAll) (L_ColorUndoes_Jt k) L_ColorUndoes_f [.int .i64 n894, .slice q895 l896 c897] H K = L_ColorUndoes_b L_few L_exampleHoldsq color_Undo R07_Undo R02_SameAll k n894 q895 l896 c897 H (fun t1399 H => K (.bool t1399) H) := by kernel_rfl
theorem L_ColorUndoes_cs (R : Type) (k : Nat) : ∀ args H K r, L_ColorUndoes_c R k args H K = some r → ∃ v H', Tri Try.prog 9 args H v H' ∧ K v H' = some r := by
  intro args H K r h
  unfold L_ColorUndoes_c L_ColorUndoes_ca at h
  split at h
  · exact evF_ok (C := L_ColorUndoes_C R k) (an := An) (t := L_ColorUndoes_at) (fn := Try.f9) (c := (Try.f9.body.getD .skip)) (ifn := L_ColorUndoes_f) (L_ColorUndoes_S R k) (L_ColorUndoes_J R k) Try.func9 (by kernel_rfl) (by kernel_rfl) (And.intro True.intro (And.intro (And.intro True.intro (And.intro (And.intro True.intro True.intro) True.intro)) (And.intro True.intro (And.intro True.intro (And.intro True.intro True.intro))))) rfl (Eq.trans (L_ColorUndoes_e (L_few k) L_exampleHoldsq (color_Undo k) (R07_Undo k) (R02_SameAll k) k _ _ _ _ H K) h)
  · cases h
end Go.Proofs.Ytoeoolnkndkefaa.Sh
