/- Lean functions that stand for Go's, over an explicit heap, and the proofs that they do (written by this claim's program shallow.py). -/
import Derived.Test.YtblpaolcgkjcgaaSh0
import Derived.Test.YtblpaolcgkjcgaaSh6
set_option maxRecDepth 100000
set_option linter.unusedVariables false
set_option linter.unusedSimpArgs false
namespace Go.Proofs.Ytblpaolcgkjcgaa.Sh
open Go.Proofs.Ytblpaolcgkjcgaa.FW
/-! ### L_want: function 38 -/
def L_want_b {R : Type} (R14_Block_Set : Option Addr → Int → Int → Int → Heap → (Int → Heap → Option R) → Option R) (R14_Block_Mark : Option Addr → Int → Int → Heap → (Int → Heap → Option R) → Option R) (R14_Block_Touch : Option Addr → Int → Int → Bool → Heap → (Int → Heap → Option R) → Option R) (R14_Block_Refine : Option Addr → Int → Int → Heap → (Int → Heap → Option R) → Option R) (k : Nat) (p501 : Option Addr) (n502 : Int) (n503 : Int) (n504 : Int) (n505 : Int) (H : Heap) (K : Int → Heap → Option R) : Option R :=
hal H [.int .i64 n502, .int .i64 n503, .int .i64 n504, .int .i64 n505] fun p506 H507 =>
hfad 0 p506 fun p508 =>
ldI .i64 H507 p508 fun n509 =>
bif (n509 == 0) then (hfad 1 p506 fun p510 =>
ldI .i64 H507 p510 fun n511 =>
hfad 2 p506 fun p512 =>
ldI .i64 H507 p512 fun n513 =>
hfad 3 p506 fun p514 =>
ldI .i64 H507 p514 fun n515 =>
R14_Block_Set p501 n511 n513 n515 H507 fun n516 H517 =>
K n516 H517)
 else (bif (n509 == 1) then (hfad 1 p506 fun p518 =>
ldI .i64 H507 p518 fun n519 =>
hfad 2 p506 fun p520 =>
ldI .i64 H507 p520 fun n521 =>
R14_Block_Mark p501 n519 n521 H507 fun n522 H523 =>
K n522 H523)
 else (bif (n509 == 2) then (hfad 1 p506 fun p524 =>
ldI .i64 H507 p524 fun n525 =>
hfad 2 p506 fun p526 =>
ldI .i64 H507 p526 fun n527 =>
R14_Block_Touch p501 n525 n527 true H507 fun n528 H529 =>
K n528 H529)
 else (bif (n509 == 3) then (hfad 1 p506 fun p530 =>
ldI .i64 H507 p530 fun n531 =>
hfad 2 p506 fun p532 =>
ldI .i64 H507 p532 fun n533 =>
R14_Block_Touch p501 n531 n533 false H507 fun n534 H535 =>
K n534 H535)
 else (hfad 1 p506 fun p536 =>
ldI .i64 H507 p536 fun n537 =>
hfad 2 p506 fun p538 =>
ldI .i64 H507 p538 fun n539 =>
R14_Block_Refine p501 n537 n539 H507 fun n540 H541 =>
K n540 H541))))

def L_want {R : Type} (k : Nat) (p501 : Option Addr) (n502 : Int) (n503 : Int) (n504 : Int) (n505 : Int) (H : Heap) (K : Int → Heap → Option R) : Option R := L_want_b (R14_Block_Set k) R14_Block_Mark R14_Block_Touch R14_Block_Refine k p501 n502 n503 n504 n505 H K

def L_want_Ct {R : Type} (R14_Block_Set : Option Addr → Int → Int → Int → Heap → (Int → Heap → Option R) → Option R) (R14_Block_Mark : Option Addr → Int → Int → Heap → (Int → Heap → Option R) → Option R) (R14_Block_Touch : Option Addr → Int → Int → Bool → Heap → (Int → Heap → Option R) → Option R) (R14_Block_Refine : Option Addr → Int → Int → Heap → (Int → Heap → Option R) → Option R) : Tab R := tcons 53 (R14_Block_Set_ca R14_Block_Set) <| tcons 54 (R14_Block_Mark_ca R14_Block_Mark) <| tcons 55 (R14_Block_Touch_ca R14_Block_Touch) <| tcons 56 (R14_Block_Refine_ca R14_Block_Refine) <| fun _ _ _ _ => none
def L_want_C (R : Type) (k : Nat) : Tab R := L_want_Ct (R14_Block_Set k) R14_Block_Mark R14_Block_Touch R14_Block_Refine
theorem L_want_S (R : Type) (k : Nat) : CSound Try.prog (L_want_C R k) := csound_cons (R14_Block_Set_cs R k) <| csound_cons (R14_Block_Mark_cs R k) <| csound_cons (R14_Block_Touch_cs R k) <| csound_cons (R14_Block_Refine_cs R k) <| csound_nil
def L_want_Jt {R : Type} (k : Nat) : JTab R := fun _ _ _ _ => none
def L_want_J (R : Type) (k : Nat) : JTab R := L_want_Jt k
def L_want_at : AT := (.seq (.reg [0, 3] []) (.seq (.seq (.reg [0, 3, 6] []) (.node (.seq (.reg [0, 3, 6, 7] []) (.cond (.seq (.reg [4] []) .leaf) (.seq (.reg [0, 3, 6, 17] []) (.cond (.seq (.reg [4] []) .leaf) (.seq (.reg [0, 3, 6, 25] []) (.cond (.seq (.reg [4] []) .leaf) (.seq (.reg [0, 3, 33] []) (.cond (.seq (.reg [4] []) .leaf) .leaf)))))))))) (.seq (.reg [4] []) .leaf)))
def L_want_f : IFn := ⟨47, [.t 4], (.seq (.reg [⟨some 3, .box (.t 1), none⟩,
 ⟨some 4, .mov (.c (Go.Value.int Go.IntKind.i64 0)), none⟩] [0, 3]) (.seq (.seq (.reg [⟨some 5, .fad 0 (.t 3), none⟩,
 ⟨some 6, .ld (.sc (.int .i64)) (.t 5), none⟩] [0, 3, 6]) (.block 0 (.seq (.reg [⟨some 8, .cmp .eql (.t 6) (.c (Go.Value.int Go.IntKind.i64 0)), none⟩,
 ⟨some 7, .mov (.t 8), none⟩] [0, 3, 6, 7]) (.cond (.t 7) (.seq (.reg [⟨some 9, .mov (.t 0), none⟩,
 ⟨some 10, .fad 1 (.t 3), none⟩,
 ⟨some 11, .ld (.sc (.int .i64)) (.t 10), none⟩,
 ⟨some 12, .fad 2 (.t 3), none⟩,
 ⟨some 13, .ld (.sc (.int .i64)) (.t 12), none⟩,
 ⟨some 14, .fad 3 (.t 3), none⟩,
 ⟨some 15, .ld (.sc (.int .i64)) (.t 14), none⟩,
 ⟨some 16, .call 53 [(.t 9), (.t 11), (.t 13), (.t 15)] (.one (.sc (.int .i64))), none⟩,
 ⟨some 4, .mov (.t 16), none⟩] [4]) .ret) (.seq (.reg [⟨some 18, .cmp .eql (.t 6) (.c (Go.Value.int Go.IntKind.i64 1)), none⟩,
 ⟨some 17, .mov (.t 18), none⟩] [0, 3, 6, 17]) (.cond (.t 17) (.seq (.reg [⟨some 19, .mov (.t 0), none⟩,
 ⟨some 20, .fad 1 (.t 3), none⟩,
 ⟨some 21, .ld (.sc (.int .i64)) (.t 20), none⟩,
 ⟨some 22, .fad 2 (.t 3), none⟩,
 ⟨some 23, .ld (.sc (.int .i64)) (.t 22), none⟩,
 ⟨some 24, .call 54 [(.t 19), (.t 21), (.t 23)] (.one (.sc (.int .i64))), none⟩,
 ⟨some 4, .mov (.t 24), none⟩] [4]) .ret) (.seq (.reg [⟨some 26, .cmp .eql (.t 6) (.c (Go.Value.int Go.IntKind.i64 2)), none⟩,
 ⟨some 25, .mov (.t 26), none⟩] [0, 3, 6, 25]) (.cond (.t 25) (.seq (.reg [⟨some 27, .mov (.t 0), none⟩,
 ⟨some 28, .fad 1 (.t 3), none⟩,
 ⟨some 29, .ld (.sc (.int .i64)) (.t 28), none⟩,
 ⟨some 30, .fad 2 (.t 3), none⟩,
 ⟨some 31, .ld (.sc (.int .i64)) (.t 30), none⟩,
 ⟨some 32, .call 55 [(.t 27), (.t 29), (.t 31), (.c (Go.Value.bool true))] (.one (.sc (.int .i64))), none⟩,
 ⟨some 4, .mov (.t 32), none⟩] [4]) .ret) (.seq (.reg [⟨some 34, .cmp .eql (.t 6) (.c (Go.Value.int Go.IntKind.i64 3)), none⟩,
 ⟨some 33, .mov (.t 34), none⟩] [0, 3, 33]) (.cond (.t 33) (.seq (.reg [⟨some 35, .mov (.t 0), none⟩,
 ⟨some 36, .fad 1 (.t 3), none⟩,
 ⟨some 37, .ld (.sc (.int .i64)) (.t 36), none⟩,
 ⟨some 38, .fad 2 (.t 3), none⟩,
 ⟨some 39, .ld (.sc (.int .i64)) (.t 38), none⟩,
 ⟨some 40, .call 55 [(.t 35), (.t 37), (.t 39), (.c (Go.Value.bool false))] (.one (.sc (.int .i64))), none⟩,
 ⟨some 4, .mov (.t 40), none⟩] [4]) .ret) .skip)))))))))) (.seq (.reg [⟨some 41, .mov (.t 0), none⟩,
 ⟨some 42, .fad 1 (.t 3), none⟩,
 ⟨some 43, .ld (.sc (.int .i64)) (.t 42), none⟩,
 ⟨some 44, .fad 2 (.t 3), none⟩,
 ⟨some 45, .ld (.sc (.int .i64)) (.t 44), none⟩,
 ⟨some 46, .call 56 [(.t 41), (.t 43), (.t 45)] (.one (.sc (.int .i64))), none⟩,
 ⟨some 4, .mov (.t 46), none⟩] [4]) .ret)))⟩
def L_want_ca {R : Type} (f : Option Addr → Int → Int → Int → Int → Heap → (Int → Heap → Option R) → Option R) (args : List Value) (H : Heap) (K : Value → Heap → Option R) : Option R :=
  match args with
  | [.pointer p501, .agg ⟨[.int .i64 n502, .int .i64 n503, .int .i64 n504, .int .i64 n505]⟩] => f p501 n502 n503 n504 n505 H (fun n1189 H => K (.int .i64 n1189) H)
  | _ => none
def L_want_c (R : Type) (k : Nat) (args : List Value) (H : Heap) (K : Value → Heap → Option R) : Option R := L_want_ca (L_want k) args H K
theorem L_want_e {R : Type} (R14_Block_Set : Option Addr → Int → Int → Int → Heap → (Int → Heap → Option R) → Option R) (R14_Block_Mark : Option Addr → Int → Int → Heap → (Int → Heap → Option R) → Option R) (R14_Block_Touch : Option Addr → Int → Int → Bool → Heap → (Int → Heap → Option R) → Option R) (R14_Block_Refine : Option Addr → Int → Int → Heap → (Int → Heap → Option R) → Option R) (k : Nat) (p501 : Option Addr) (n502 : Int) (n503 : Int) (n504 : Int) (n505 : Int) (H : Heap) (K : Value → Heap → Option R) : evF (L_want_Ct R14_Block_Set R14_Block_Mark R14_Block_Touch R14_Block_Refine) (L_want_Jt k) L_want_f [.pointer p501, .agg ⟨[.int .i64 n502, .int .i64 n503, .int .i64 n504, .int .i64 n505]⟩] H K = L_want_b R14_Block_Set R14_Block_Mark R14_Block_Touch R14_Block_Refine k p501 n502 n503 n504 n505 H (fun n1189 H => K (.int .i64 n1189) H) := by kernel_rfl
theorem L_want_cs (R : Type) (k : Nat) : ∀ args H K r, L_want_c R k args H K = some r → ∃ v H', Tri Try.prog 38 args H v H' ∧ K v H' = some r := by
  intro args H K r h
  unfold L_want_c L_want_ca at h
  split at h
  · exact evF_ok (C := L_want_C R k) (an := An) (t := L_want_at) (fn := Try.f38) (c := (Try.f38.body.getD .skip)) (ifn := L_want_f) (L_want_S R k) (L_want_J R k) Try.func38 (by kernel_rfl) (by kernel_rfl) (And.intro True.intro (And.intro (And.intro True.intro (And.intro True.intro (And.intro (And.intro True.intro True.intro) (And.intro True.intro (And.intro (And.intro True.intro True.intro) (And.intro True.intro (And.intro (And.intro True.intro True.intro) (And.intro True.intro (And.intro (And.intro True.intro True.intro) True.intro))))))))) (And.intro True.intro True.intro))) rfl (Eq.trans (L_want_e (R14_Block_Set k) R14_Block_Mark R14_Block_Touch R14_Block_Refine k _ _ _ _ _ H K) h)
  · cases h
end Go.Proofs.Ytblpaolcgkjcgaa.Sh
