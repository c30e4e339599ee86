/- Lean functions that stand for Go's, over an explicit heap, and the proofs that they do (written by this claim's program shallow.py). -/
import Derived.Test.YtblpaolcgkjcgaaSh4
set_option maxRecDepth 100000
set_option linter.unusedVariables false
set_option linter.unusedSimpArgs false
namespace Go.Proofs.Ytblpaolcgkjcgaa.Sh
open Go.Proofs.Ytblpaolcgkjcgaa.FW
/-! ### R14_Block_Refine: function 56 -/
def R14_Block_Refine_b {R : Type} (R14_Block_error : Option Addr → Int → Int → Heap → (Int → Option R) → Option R) (k : Nat) (p604 : Option Addr) (n605 : Int) (n606 : Int) (H : Heap) (K : Int → Heap → Option R) : Option R :=
R14_Block_error p604 n605 n606 H fun n607 =>
bif (n607 != 0) then (K n607 H)
 else (hnil p604 fun p608 =>
hfad 2 p608 fun p609 =>
ldL H p609 fun q610 l611 c612 =>
hnil p604 fun p613 =>
hfad 0 p613 fun p614 =>
ldI .i64 H p614 fun n615 =>
hidx q610 l611 (IntKind.wrap .i64 ((IntKind.wrap .i64 (n606 * n615)) + n605)) 4 fun p616 =>
hfad 3 p616 fun p617 =>
hst1 H p617 (.bool true) fun H618 =>
K 0 H618)

def R14_Block_Refine {R : Type} (p604 : Option Addr) (n605 : Int) (n606 : Int) (H : Heap) (K : Int → Heap → Option R) : Option R := R14_Block_Refine_b R14_Block_error 0 p604 n605 n606 H K

def R14_Block_Refine_Ct {R : Type} (R14_Block_error : Option Addr → Int → Int → Heap → (Int → Option R) → Option R) : Tab R := tcons 65 (R14_Block_error_ca R14_Block_error) <| fun _ _ _ _ => none
def R14_Block_Refine_C (R : Type) (k : Nat) : Tab R := R14_Block_Refine_Ct R14_Block_error
theorem R14_Block_Refine_S (R : Type) (k : Nat) : CSound Try.prog (R14_Block_Refine_C R k) := csound_cons (R14_Block_error_cs R k) <| csound_nil
def R14_Block_Refine_Jt {R : Type} (k : Nat) : JTab R := fun _ _ _ _ => none
def R14_Block_Refine_J (R : Type) (k : Nat) : JTab R := R14_Block_Refine_Jt k
def R14_Block_Refine_at : AT := (.seq (.reg [0, 1, 2] []) (.seq (.seq (.reg [0, 1, 2, 7] []) (.seq (.reg [0, 1, 2, 7, 13] []) (.cond (.seq (.reg [6] []) .leaf) .leaf))) (.seq (.reg [] [[], [0], [0, 1], [0, 1, 2], [], [], [5], [5, 6], [5, 6, 7], [4, 5, 6, 7, 8], [], [4, 5, 6, 7, 8, 9, 10], [0, 1, 2, 3, 4, 5, 6, 7, 8, 9, 10, 11], [0, 1, 2, 3, 4, 5, 6, 7, 8, 9, 10, 11, 12], [0, 1, 2, 3, 4, 5, 6, 7, 8, 9, 10, 11, 12, 13]]) (.seq (.reg [6] []) .leaf))))
def R14_Block_Refine_f : IFn := ⟨29, [.t 6], (.seq (.reg [⟨some 6, .mov (.c (Go.Value.int Go.IntKind.i64 0)), none⟩] [0, 1, 2]) (.seq (.seq (.reg [⟨some 8, .mov (.t 0), none⟩,
 ⟨some 9, .mov (.t 1), none⟩,
 ⟨some 10, .mov (.t 2), none⟩,
 ⟨some 11, .call 65 [(.t 8), (.t 9), (.t 10)] (.one (.sc (.int .i64))), none⟩,
 ⟨some 7, .mov (.t 11), none⟩] [0, 1, 2, 7]) (.seq (.reg [⟨some 12, .mov (.t 7), none⟩,
 ⟨some 13, .cmp .neq (.t 12) (.c (Go.Value.int Go.IntKind.i64 0)), none⟩] [0, 1, 2, 7, 13]) (.cond (.t 13) (.seq (.reg [⟨some 14, .mov (.t 7), none⟩,
 ⟨some 6, .mov (.t 14), none⟩] [6]) .ret) .skip))) (.seq (.reg [⟨some 15, .mov (.t 0), none⟩,
 ⟨some 16, .nilc (.t 15), none⟩,
 ⟨some 17, .fad 2 (.t 16), none⟩,
 ⟨some 18, .ld (.sc .slc) (.t 17), none⟩,
 ⟨some 19, .mov (.t 2), none⟩,
 ⟨some 20, .mov (.t 0), none⟩,
 ⟨some 21, .nilc (.t 20), none⟩,
 ⟨some 22, .fad 0 (.t 21), none⟩,
 ⟨some 23, .ld (.sc (.int .i64)) (.t 22), none⟩,
 ⟨some 24, .bin .mul .i64 (.t 19) (.t 23), none⟩,
 ⟨some 25, .mov (.t 1), none⟩,
 ⟨some 26, .bin .add .i64 (.t 24) (.t 25), none⟩,
 ⟨some 27, .ids 4 (.t 18) (.t 26), none⟩,
 ⟨some 28, .fad 3 (.t 27), none⟩,
 ⟨none, .st 1 (.t 28) (.c (Go.Value.bool true)), none⟩] []) (.seq (.reg [⟨some 6, .mov (.c (Go.Value.int Go.IntKind.i64 0)), none⟩] [6]) .ret))))⟩
def R14_Block_Refine_ca {R : Type} (f : Option Addr → Int → Int → Heap → (Int → Heap → Option R) → Option R) (args : List Value) (H : Heap) (K : Value → Heap → Option R) : Option R :=
  match args with
  | [.pointer p604, .int .i64 n605, .int .i64 n606] => f p604 n605 n606 H (fun n1316 H => K (.int .i64 n1316) H)
  | _ => none
def R14_Block_Refine_c (R : Type) (k : Nat) (args : List Value) (H : Heap) (K : Value → Heap → Option R) : Option R := R14_Block_Refine_ca R14_Block_Refine args H K
theorem R14_Block_Refine_e {R : Type} (R14_Block_error : Option Addr → Int → Int → Heap → (Int → Option R) → Option R) (k : Nat) (p604 : Option Addr) (n605 : Int) (n606 : Int) (H : Heap) (K : Value → Heap → Option R) : evF (R14_Block_Refine_Ct R14_Block_error) (R14_Block_Refine_Jt k) R14_Block_Refine_f [.pointer p604, .int .i64 n605, .int .i64 n606] H K = R14_Block_Refine_b R14_Block_error k p604 n605 n606 H (fun n1316 H => K (.int .i64 n1316) H) := by kernel_rfl
theorem R14_Block_Refine_cs (R : Type) (k : Nat) : ∀ args H K r, R14_Block_Refine_c R k args H K = some r → ∃ v H', Tri Try.prog 56 args H v H' ∧ K v H' = some r := by
  intro args H K r h
  unfold R14_Block_Refine_c R14_Block_Refine_ca at h
  split at h
  · exact evF_ok (C := R14_Block_Refine_C R 0) (an := An) (t := R14_Block_Refine_at) (fn := Try.f56) (c := (Try.f56.body.getD .skip)) (ifn := R14_Block_Refine_f) (R14_Block_Refine_S R 0) (R14_Block_Refine_J R 0) Try.func56 (by kernel_rfl) (by kernel_rfl) (And.intro True.intro (And.intro (And.intro True.intro (And.intro True.intro (And.intro (And.intro True.intro True.intro) True.intro))) (And.intro True.intro (And.intro True.intro True.intro)))) rfl (Eq.trans (R14_Block_Refine_e R14_Block_error 0 _ _ _ H K) h)
  · cases h
/-! ### L_want: function 38 -/
def L_want_b {R : Type} (R14_Block_Set : Option Addr → Int → Int → Int → Heap → (Int → Heap → Option R) → Option R) (R14_Block_Mark : Option Addr → Int → Int → Heap → (Int → Heap → Option R) → Option R) (R14_Block_Touch : Option Addr → Int → Int → Bool → Heap → (Int → Heap → Option R) → Option R) (R14_Block_Refine : Option Addr → Int → Int → Heap → (Int → Heap → Option R) → Option R) (k : Nat) (p501 : Option Addr) (n502 : Int) (n503 : Int) (n504 : Int) (n505 : Int) (H : Heap) (K : Int → Heap → Option R) : Option R :=
hal H [.int .i64 n502, .int .i64 n503, .int .i64 n504, .int .i64 n505] fun p506 H507 =>
hfad 0 p506 fun p508 =>
ldI .i64 H507 p508 fun n509 =>
bif (n509 == 0) then (hfad 1 p506 fun p510 =>
ldI .i64 H507 p510 fun n511 =>
hfad 2 p506 fun p512 =>
ldI .i64 H507 p512 fun n513 =>
hfad 3 p506 fun p514 =>
ldI .i64 H507 p514 fun n515 =>
R14_Block_Set p501 n511 n513 n515 H507 fun n516 H517 =>
K n516 H517)
 else (bif (n509 == 1) then (hfad 1 p506 fun p518 =>
ldI .i64 H507 p518 fun n519 =>
hfad 2 p506 fun p520 =>
ldI .i64 H507 p520 fun n521 =>
R14_Block_Mark p501 n519 n521 H507 fun n522 H523 =>
K n522 H523)
 else (bif (n509 == 2) then (hfad 1 p506 fun p524 =>
ldI .i64 H507 p524 fun n525 =>
hfad 2 p506 fun p526 =>
ldI .i64 H507 p526 fun n527 =>
R14_Block_Touch p501 n525 n527 true H507 fun n528 H529 =>
K n528 H529)
 else (bif (n509 == 3) then (hfad 1 p506 fun p530 =>
ldI .i64 H507 p530 fun n531 =>
hfad 2 p506 fun p532 =>
ldI .i64 H507 p532 fun n533 =>
R14_Block_Touch p501 n531 n533 false H507 fun n534 H535 =>
K n534 H535)
 else (hfad 1 p506 fun p536 =>
ldI .i64 H507 p536 fun n537 =>
hfad 2 p506 fun p538 =>
ldI .i64 H507 p538 fun n539 =>
R14_Block_Refine p501 n537 n539 H507 fun n540 H541 =>
K n540 H541))))

def L_want {R : Type} (k : Nat) (p501 : Option Addr) (n502 : Int) (n503 : Int) (n504 : Int) (n505 : Int) (H : Heap) (K : Int → Heap → Option R) : Option R := L_want_b (R14_Block_Set k) R14_Block_Mark R14_Block_Touch R14_Block_Refine k p501 n502 n503 n504 n505 H K

def L_want_Ct {R : Type} (R14_Block_Set : Option Addr → Int → Int → Int → Heap → (Int → Heap → Option R) → Option R) (R14_Block_Mark : Option Addr → Int → Int → Heap → (Int → Heap → Option R) → Option R) (R14_Block_Touch : Option Addr → Int → Int → Bool → Heap → (Int → Heap → Option R) → Option R) (R14_Block_Refine : Option Addr → Int → Int → Heap → (Int → Heap → Option R) → Option R) : Tab R := tcons 53 (R14_Block_Set_ca R14_Block_Set) <| tcons 54 (R14_Block_Mark_ca R14_Block_Mark) <| tcons 55 (R14_Block_Touch_ca R14_Block_Touch) <| tcons 56 (R14_Block_Refine_ca R14_Block_Refine) <| fun _ _ _ _ => none
def L_want_C (R : Type) (k : Nat) : Tab R := L_want_Ct (R14_Block_Set k) R14_Block_Mark R14_Block_Touch R14_Block_Refine
theorem L_want_S (R : Type) (k : Nat) : CSound Try.prog (L_want_C R k) := csound_cons (R14_Block_Set_cs R k) <| csound_cons (R14_Block_Mark_cs R k) <| csound_cons (R14_Block_Touch_cs R k) <| csound_cons (R14_Block_Refine_cs R k) <| csound_nil
def L_want_Jt {R : Type} (k : Nat) : JTab R := fun _ _ _ _ => none
def L_want_J (R : Type) (k : Nat) : JTab R := L_want_Jt k
def L_want_at : AT := (.seq (.reg [0, 3] []) (.seq (.seq (.reg [0, 3, 6] []) (.node (.seq (.reg [0, 3, 6, 7] []) (.cond (.seq (.reg [4] []) .leaf) (.seq (.reg [0, 3, 6, 17] []) (.cond (.seq (.reg [4] []) .leaf) (.seq (.reg [0, 3, 6, 25] []) (.cond (.seq (.reg [4] []) .leaf) (.seq (.reg [0, 3, 33] []) (.cond (.seq (.reg [4] []) .leaf) .leaf)))))))))) (.seq (.reg [4] []) .leaf)))
def L_want_f : IFn := ⟨47, [.t 4], (.seq (.reg [⟨some 3, .box (.t 1), none⟩,
 ⟨some 4, .mov (.c (Go.Value.int Go.IntKind.i64 0)), none⟩] [0, 3]) (.seq (.seq (.reg [⟨some 5, .fad 0 (.t 3), none⟩,
 ⟨some 6, .ld (.sc (.int .i64)) (.t 5), none⟩] [0, 3, 6]) (.block 0 (.seq (.reg [⟨some 8, .cmp .eql (.t 6) (.c (Go.Value.int Go.IntKind.i64 0)), none⟩,
 ⟨some 7, .mov (.t 8), none⟩] [0, 3, 6, 7]) (.cond (.t 7) (.seq (.reg [⟨some 9, .mov (.t 0), none⟩,
 ⟨some 10, .fad 1 (.t 3), none⟩,
 ⟨some 11, .ld (.sc (.int .i64)) (.t 10), none⟩,
 ⟨some 12, .fad 2 (.t 3), none⟩,
 ⟨some 13, .ld (.sc (.int .i64)) (.t 12), none⟩,
 ⟨some 14, .fad 3 (.t 3), none⟩,
 ⟨some 15, .ld (.sc (.int .i64)) (.t 14), none⟩,
 ⟨some 16, .call 53 [(.t 9), (.t 11), (.t 13), (.t 15)] (.one (.sc (.int .i64))), none⟩,
 ⟨some 4, .mov (.t 16), none⟩] [4]) .ret) (.seq (.reg [⟨some 18, .cmp .eql (.t 6) (.c (Go.Value.int Go.IntKind.i64 1)), none⟩,
 ⟨some 17, .mov (.t 18), none⟩] [0, 3, 6, 17]) (.cond (.t 17) (.seq (.reg [⟨some 19, .mov (.t 0), none⟩,
 ⟨some 20, .fad 1 (.t 3), none⟩,
 ⟨some 21, .ld (.sc (.int .i64)) (.t 20), none⟩,
 ⟨some 22, .fad 2 (.t 3), none⟩,
 ⟨some 23, .ld (.sc (.int .i64)) (.t 22), none⟩,
 ⟨some 24, .call 54 [(.t 19), (.t 21), (.t 23)] (.one (.sc (.int .i64))), none⟩,
 ⟨some 4, .mov (.t 24), none⟩] [4]) .ret) (.seq (.reg [⟨some 26, .cmp .eql (.t 6) (.c (Go.Value.int Go.IntKind.i64 2)), none⟩,
 ⟨some 25, .mov (.t 26), none⟩] [0, 3, 6, 25]) (.cond (.t 25) (.seq (.reg [⟨some 27, .mov (.t 0), none⟩,
 ⟨some 28, .fad 1 (.t 3), none⟩,
 ⟨some 29, .ld (.sc (.int .i64)) (.t 28), none⟩,
 ⟨some 30, .fad 2 (.t 3), none⟩,
 ⟨some 31, .ld (.sc (.int .i64)) (.t 30), none⟩,
 ⟨some 32, .call 55 [(.t 27), (.t 29), (.t 31), (.c (Go.Value.bool true))] (.one (.sc (.int .i64))), none⟩,
 ⟨some 4, .mov (.t 32), none⟩] [4]) .ret) (.seq (.reg [⟨some 34, .cmp .eql (.t 6) (.c (Go.Value.int Go.IntKind.i64 3)), none⟩,
 ⟨some 33, .mov (.t 34), none⟩] [0, 3, 33]) (.cond (.t 33) (.seq (.reg [⟨some 35, .mov (.t 0), none⟩,
 ⟨some 36, .fad 1 (.t 3), none⟩,
 ⟨some 37, .ld (.sc (.int .i64)) (.t 36), none⟩,
 ⟨some 38, .fad 2 (.t 3), none⟩,
 ⟨some 39, .ld (.sc (.int .i64)) (.t 38), none⟩,
 ⟨some 40, .call 55 [(.t 35), (.t 37), (.t 39), (.c (Go.Value.bool false))] (.one (.sc (.int .i64))), none⟩,
 ⟨some 4, .mov (.t 40), none⟩] [4]) .ret) .skip)))))))))) (.seq (.reg [⟨some 41, .mov (.t 0), none⟩,
 ⟨some 42, .fad 1 (.t 3), none⟩,
 ⟨some 43, .ld (.sc (.int .i64)) (.t 42), none⟩,
 ⟨some 44, .fad 2 (.t 3), none⟩,
 ⟨some 45, .ld (.sc (.int .i64)) (.t 44), none⟩,
 ⟨some 46, .call 56 [(.t 41), (.t 43), (.t 45)] (.one (.sc (.int .i64))), none⟩,
 ⟨some 4, .mov (.t 46), none⟩] [4]) .ret)))⟩
def L_want_ca {R : Type} (f : Option Addr → Int → Int → Int → Int → Heap → (Int → Heap → Option R) → Option R) (args : List Value) (H : Heap) (K : Value → Heap → Option R) : Option R :=
  match args with
  | [.pointer p501, .agg ⟨[.int .i64 n502, .int .i64 n503, .int .i64 n504, .int .i64 n505]⟩] => f p501 n502 n503 n504 n505 H (fun n1317 H => K (.int .i64 n1317) H)
  | _ => none
def L_want_c (R : Type) (k : Nat) (args : List Value) (H : Heap) (K : Value → Heap → Option R) : Option R := L_want_ca (L_want k) args H K
theorem L_want_e {R : Type} (R14_Block_Set : Option Addr → Int → Int → Int → Heap → (Int → Heap → Option R) → Option R) (R14_Block_Mark : Option Addr → Int → Int → Heap → (Int → Heap → Option R) → Option R) (R14_Block_Touch : Option Addr → Int → Int → Bool → Heap → (Int → Heap → Option R) → Option R) (R14_Block_Refine : Option Addr → Int → Int → Heap → (Int → Heap → Option R) → Option R) (k : Nat) (p501 : Option Addr) (n502 : Int) (n503 : Int) (n504 : Int) (n505 : Int) (H : Heap) (K : Value → Heap → Option R) : evF (L_want_Ct R14_Block_Set R14_Block_Mark R14_Block_Touch R14_Block_Refine) (L_want_Jt k) L_want_f [.pointer p501, .agg ⟨[.int .i64 n502, .int .i64 n503, .int .i64 n504, .int .i64 n505]⟩] H K = L_want_b R14_Block_Set R14_Block_Mark R14_Block_Touch R14_Block_Refine k p501 n502 n503 n504 n505 H (fun n1317 H => K (.int .i64 n1317) H) := by kernel_rfl
theorem L_want_cs (R : Type) (k : Nat) : ∀ args H K r, L_want_c R k args H K = some r → ∃ v H', Tri Try.prog 38 args H v H' ∧ K v H' = some r := by
  intro args H K r h
  unfold L_want_c L_want_ca at h
  split at h
  · exact evF_ok (C := L_want_C R k) (an := An) (t := L_want_at) (fn := Try.f38) (c := (Try.f38.body.getD .skip)) (ifn := L_want_f) (L_want_S R k) (L_want_J R k) Try.func38 (by kernel_rfl) (by kernel_rfl) (And.intro True.intro (And.intro (And.intro True.intro (And.intro True.intro (And.intro (And.intro True.intro True.intro) (And.intro True.intro (And.intro (And.intro True.intro True.intro) (And.intro True.intro (And.intro (And.intro True.intro True.intro) (And.intro True.intro (And.intro (And.intro True.intro True.intro) True.intro))))))))) (And.intro True.intro True.intro))) rfl (Eq.trans (L_want_e (R14_Block_Set k) R14_Block_Mark R14_Block_Touch R14_Block_Refine k _ _ _ _ _ H K) h)
  · cases h
/-! ### L_played: function 23 -/
def L_played_l0_b {R : Type} (L_do : Option Addr → Int → Int → Int → Int → Heap → (Int → Heap → Option R) → Option R) (L_want : Option Addr → Int → Int → Int → Int → Heap → (Int → Heap → Option R) → Option R) (rec : Option Addr → Nat → Nat → Option Addr → Option Addr → Int → Heap → Option R) (KE0 : Option Addr → Option Addr → Heap → Option R) (k : Nat) (q430 : Option Addr) (l431 : Nat) (c432 : Nat) (p433 : Option Addr) (p434 : Option Addr) (n435 : Int) (H : Heap) : Option R :=
bif decide (n435 < ((l431 : Nat) : Int)) then (hidx q430 l431 n435 4 fun p436 =>
ldI .i64 H (pad p436 0) fun n437 =>
ldI .i64 H (pad p436 1) fun n438 =>
ldI .i64 H (pad p436 2) fun n439 =>
ldI .i64 H (pad p436 3) fun n440 =>
L_do p433 n437 n438 n439 n440 H fun n441 H442 =>
hidx q430 l431 n435 4 fun p443 =>
ldI .i64 H442 (pad p443 0) fun n444 =>
ldI .i64 H442 (pad p443 1) fun n445 =>
ldI .i64 H442 (pad p443 2) fun n446 =>
ldI .i64 H442 (pad p443 3) fun n447 =>
L_want p434 n444 n445 n446 n447 H442 fun n448 H449 =>
rec q430 l431 c432 p433 p434 (IntKind.wrap .i64 (n435 + 1)) H449)
 else (KE0 p433 p434 H)
def L_played_l0 {R : Type} (k : Nat) (KE0 : Option Addr → Option Addr → Heap → Option R) : Nat → Option Addr → Nat → Nat → Option Addr → Option Addr → Int → Heap → Option R
  | 0, _, _, _, _, _, _, _ => none
  | n + 1, q430, l431, c432, p433, p434, n435, H => L_played_l0_b (L_do k) (L_want k) (L_played_l0 k KE0 n) KE0 k q430 l431 c432 p433 p434 n435 H

def L_played_b {R : Type} (cblk_New : Int → Int → Heap → (Option Addr → Int → Heap → Option R) → Option R) (R14_New : Int → Int → Heap → (Option Addr → Int → Heap → Option R) → Option R) (L_played_l0 : (Option Addr → Option Addr → Heap → Option R) → Nat → Option Addr → Nat → Nat → Option Addr → Option Addr → Int → Heap → Option R) (k : Nat) (n419 : Int) (n420 : Int) (q421 : Option Addr) (l422 : Nat) (c423 : Nat) (H : Heap) (K : Option Addr → Option Addr → Heap → Option R) : Option R :=
cblk_New n419 n420 H fun p424 n425 H426 =>
R14_New n419 n420 H426 fun p427 n428 H429 =>
L_played_l0 (fun p452 p453 H454 =>
K p452 p453 H454) k q421 l422 c423 p424 p427 0 H429

def L_played {R : Type} (k : Nat) (n419 : Int) (n420 : Int) (q421 : Option Addr) (l422 : Nat) (c423 : Nat) (H : Heap) (K : Option Addr → Option Addr → Heap → Option R) : Option R := L_played_b cblk_New R14_New (L_played_l0 k) k n419 n420 q421 l422 c423 H K

def L_played_Ct {R : Type} (cblk_New : Int → Int → Heap → (Option Addr → Int → Heap → Option R) → Option R) (R14_New : Int → Int → Heap → (Option Addr → Int → Heap → Option R) → Option R) (L_do : Option Addr → Int → Int → Int → Int → Heap → (Int → Heap → Option R) → Option R) (L_want : Option Addr → Int → Int → Int → Int → Heap → (Int → Heap → Option R) → Option R) : Tab R := tcons 31 (cblk_New_ca cblk_New) <| tcons 36 (R14_New_ca R14_New) <| tcons 32 (L_do_ca L_do) <| tcons 38 (L_want_ca L_want) <| fun _ _ _ _ => none
def L_played_C (R : Type) (k : Nat) : Tab R := L_played_Ct cblk_New R14_New (L_do k) (L_want k)
theorem L_played_S (R : Type) (k : Nat) : CSound Try.prog (L_played_C R k) := csound_cons (cblk_New_cs R k) <| csound_cons (R14_New_cs R k) <| csound_cons (L_do_cs R k) <| csound_cons (L_want_cs R k) <| csound_nil
def L_played_aa0 {R : Type} (f : (Option Addr → Option Addr → Heap → Option R) → Nat → Option Addr → Nat → Nat → Option Addr → Option Addr → Int → Heap → Option R) (n : Nat) (vals : List Value) (H : Heap) (K : Xit → Env → Heap → Option R) : Option R :=
  match vals with
  | [.slice q430 l431 c432, .pointer p433, .pointer p434, .int .i64 n435] => f (fun p1318 p1319 H => K (.exit 0) [(8, .pointer p1318), (10, .pointer p1319)] H) n q430 l431 c432 p433 p434 n435 H
  | _ => none
def L_played_a0 (R : Type) (k n : Nat) (vals : List Value) (H : Heap) (K : Xit → Env → Heap → Option R) : Option R := L_played_aa0 (L_played_l0 k) n vals H K
def L_played_Jt {R : Type} (k : Nat) (L_played_l0 : (Option Addr → Option Addr → Heap → Option R) → Nat → Option Addr → Nat → Nat → Option Addr → Option Addr → Int → Heap → Option R) : JTab R := tcons 0 (L_played_aa0 L_played_l0 k) <| fun _ _ _ _ => none
def L_played_J (R : Type) (k : Nat) : JTab R := L_played_Jt k (L_played_l0 k)
def L_played_at : AT := (.seq (.reg [0, 1, 2] []) (.seq (.reg [0, 1, 2, 8] []) (.seq (.reg [2, 8, 10] []) (.seq (.seq (.reg [2, 8, 10, 12] []) (.node (.opq 0 [2, 8, 10, 12] ⟨[], [(0, [8, 10])], []⟩ (.node (.seq (.seq (.reg [2, 8, 10, 12, 28] []) (.cond .leaf .leaf)) (.seq (.node (.seq (.reg [2, 8, 10, 12] []) (.reg [2, 8, 10, 12] []))) (.reg [2, 8, 10, 12] []))))))) (.seq (.reg [6, 7] []) .leaf)))))
def L_played_i0 : IC := (.seq (.seq (.reg [⟨some 25, .mov (.t 12), none⟩,
 ⟨some 26, .mov (.t 2), none⟩,
 ⟨some 27, .len false (.t 26), none⟩,
 ⟨some 28, .cmp .lss (.t 25) (.t 27), none⟩] [2, 8, 10, 12, 28]) (.cond (.t 28) .skip (.exit 0))) (.seq (.block 1 (.seq (.reg [⟨some 31, .mov (.t 8), none⟩,
 ⟨some 32, .mov (.t 2), none⟩,
 ⟨some 33, .mov (.t 12), none⟩,
 ⟨some 34, .ids 4 (.t 32) (.t 33), none⟩,
 ⟨some 35, .ld (.agg [(.int .i64), (.int .i64), (.int .i64), (.int .i64)]) (.t 34), none⟩,
 ⟨some 36, .call 32 [(.t 31), (.t 35)] (.one (.sc (.int .i64))), none⟩] [2, 8, 10, 12]) (.reg [⟨some 37, .mov (.t 10), none⟩,
 ⟨some 38, .mov (.t 2), none⟩,
 ⟨some 39, .mov (.t 12), none⟩,
 ⟨some 40, .ids 4 (.t 38) (.t 39), none⟩,
 ⟨some 41, .ld (.agg [(.int .i64), (.int .i64), (.int .i64), (.int .i64)]) (.t 40), none⟩,
 ⟨some 42, .call 38 [(.t 37), (.t 41)] (.one (.sc (.int .i64))), none⟩] [2, 8, 10, 12]))) (.reg [⟨some 29, .mov (.t 12), none⟩,
 ⟨some 30, .bin .add .i64 (.t 29) (.c (Go.Value.int Go.IntKind.i64 1)), none⟩,
 ⟨some 12, .mov (.t 30), none⟩] [2, 8, 10, 12])))
def L_played_f : IFn := ⟨45, [.t 6, .t 7], (.seq (.reg [⟨some 6, .mov (.c (Go.Value.pointer none)), none⟩,
 ⟨some 7, .mov (.c (Go.Value.pointer none)), none⟩] [0, 1, 2]) (.seq (.reg [⟨some 14, .mov (.t 0), none⟩,
 ⟨some 15, .mov (.t 1), none⟩,
 ⟨some 16, .call 31 [(.t 14), (.t 15)] (.tup [(.sc .ptr), (.sc (.int .i64))]), none⟩,
 ⟨some 13, .mov (.t 16), none⟩,
 ⟨some 17, .ext 0 (.t 13), none⟩,
 ⟨some 18, .ext 1 (.t 13), none⟩,
 ⟨some 8, .mov (.t 17), none⟩,
 ⟨some 9, .mov (.t 18), none⟩] [0, 1, 2, 8]) (.seq (.reg [⟨some 20, .mov (.t 0), none⟩,
 ⟨some 21, .mov (.t 1), none⟩,
 ⟨some 22, .call 36 [(.t 20), (.t 21)] (.tup [(.sc .ptr), (.sc (.int .i64))]), none⟩,
 ⟨some 19, .mov (.t 22), none⟩,
 ⟨some 23, .ext 0 (.t 19), none⟩,
 ⟨some 24, .ext 1 (.t 19), none⟩,
 ⟨some 10, .mov (.t 23), none⟩,
 ⟨some 11, .mov (.t 24), none⟩] [2, 8, 10]) (.seq (.seq (.reg [⟨some 12, .mov (.c (Go.Value.int Go.IntKind.i64 0)), none⟩] [2, 8, 10, 12]) (.block 0 (.opq 0 [2, 8, 10, 12] (.loop L_played_i0)))) (.seq (.reg [⟨some 43, .mov (.t 8), none⟩,
 ⟨some 44, .mov (.t 10), none⟩,
 ⟨some 6, .mov (.t 43), none⟩,
 ⟨some 7, .mov (.t 44), none⟩] [6, 7]) .ret)))))⟩
theorem L_played_e0 {R : Type} (cblk_New : Int → Int → Heap → (Option Addr → Int → Heap → Option R) → Option R) (R14_New : Int → Int → Heap → (Option Addr → Int → Heap → Option R) → Option R) (L_do : Option Addr → Int → Int → Int → Int → Heap → (Int → Heap → Option R) → Option R) (L_want : Option Addr → Int → Int → Int → Int → Heap → (Int → Heap → Option R) → Option R) (L_played_l0 : (Option Addr → Option Addr → Heap → Option R) → Nat → Option Addr → Nat → Nat → Option Addr → Option Addr → Int → Heap → Option R) (k n : Nat) (q430 : Option Addr) (l431 : Nat) (c432 : Nat) (p433 : Option Addr) (p434 : Option Addr) (n435 : Int) (H : Heap) (K : Xit → Env → Heap → Option R) : evJ (L_played_Ct cblk_New R14_New L_do L_want) (L_played_Jt k L_played_l0) L_played_i0 (List.zip [2, 8, 10, 12] [.slice q430 l431 c432, .pointer p433, .pointer p434, .int .i64 n435]) H (fun x e' H' => match x with | .normal => L_played_aa0 L_played_l0 n ((clean e' [2, 8, 10, 12]).map (·.2)) H' K | x => K x (clean e' ((⟨[], [(0, [8, 10])], []⟩ : Out).of x)) H') = L_played_l0_b L_do L_want (L_played_l0 (fun p1318 p1319 H => K (.exit 0) [(8, .pointer p1318), (10, .pointer p1319)] H) n) (fun p1318 p1319 H => K (.exit 0) [(8, .pointer p1318), (10, .pointer p1319)] H) k q430 l431 c432 p433 p434 n435 H := by kernel_rfl
theorem L_played_j0 {R : Type} (k : Nat) : JS Try.prog 45 (L_played_a0 R k k) [2, 8, 10, 12] ⟨[], [(0, [8, 10])], []⟩ (.loop (sel [1, 1, 1, 0, 1, 0, 0] (Try.f23.body.getD .skip))) :=
  loop_ok (nt := 45) (c := (sel [1, 1, 1, 0, 1, 0, 0] (Try.f23.body.getD .skip))) (C := L_played_C R k) (an := An) (t := (.seq (.seq (.reg [2, 8, 10, 12, 28] []) (.cond .leaf .leaf)) (.seq (.node (.seq (.reg [2, 8, 10, 12] []) (.reg [2, 8, 10, 12] []))) (.reg [2, 8, 10, 12] [])))) (ic := L_played_i0) (L_played_S R k) (L_played_J R k) (by kernel_rfl) (And.intro (And.intro True.intro (And.intro True.intro True.intro)) (And.intro (And.intro True.intro True.intro) True.intro)) (L_played_a0 R k) (fun vals H K => by unfold L_played_a0 L_played_aa0; split <;> rfl)
    (fun n vals H K r h => by
      unfold L_played_a0 L_played_aa0 at h
      split at h <;> first | (cases h; done) | exact Eq.trans (L_played_e0 cblk_New R14_New (L_do k) (L_want k) (L_played_l0 k) k n _ _ _ _ _ _ H K) h) k
def L_played_ca {R : Type} (f : Int → Int → Option Addr → Nat → Nat → Heap → (Option Addr → Option Addr → Heap → Option R) → Option R) (args : List Value) (H : Heap) (K : Value → Heap → Option R) : Option R :=
  match args with
  | [.int .i64 n419, .int .i64 n420, .slice q421 l422 c423] => f n419 n420 q421 l422 c423 H (fun p1320 p1321 H => K (.tuple ⟨[.pointer p1320, .pointer p1321]⟩) H)
  | _ => none
def L_played_c (R : Type) (k : Nat) (args : List Value) (H : Heap) (K : Value → Heap → Option R) : Option R := L_played_ca (L_played k) args H K
theorem L_played_e {R : Type} (cblk_New : Int → Int → Heap → (Option Addr → Int → Heap → Option R) → Option R) (R14_New : Int → Int → Heap → (Option Addr → Int → Heap → Option R) → Option R) (L_do : Option Addr → Int → Int → Int → Int → Heap → (Int → Heap → Option R) → Option R) (L_want : Option Addr → Int → Int → Int → Int → Heap → (Int → Heap → Option R) → Option R) (L_played_l0 : (Option Addr → Option Addr → Heap → Option R) → Nat → Option Addr → Nat → Nat → Option Addr → Option Addr → Int → Heap → Option R) (k : Nat) (n419 : Int) (n420 : Int) (q421 : Option Addr) (l422 : Nat) (c423 : Nat) (H : Heap) (K : Value → Heap → Option R) : evF (L_played_Ct cblk_New R14_New L_do L_want) (L_played_Jt k L_played_l0) L_played_f [.int .i64 n419, .int .i64 n420, .slice q421 l422 c423] H K = L_played_b cblk_New R14_New L_played_l0 k n419 n420 q421 l422 c423 H (fun p1320 p1321 H => K (.tuple ⟨[.pointer p1320, .pointer p1321]⟩) H) := by kernel_rfl
theorem L_played_cs (R : Type) (k : Nat) : ∀ args H K r, L_played_c R k args H K = some r → ∃ v H', Tri Try.prog 23 args H v H' ∧ K v H' = some r := by
  intro args H K r h
  unfold L_played_c L_played_ca at h
  split at h
  · exact evF_ok (C := L_played_C R k) (an := An) (t := L_played_at) (fn := Try.f23) (c := (Try.f23.body.getD .skip)) (ifn := L_played_f) (L_played_S R k) (L_played_J R k) Try.func23 (by kernel_rfl) (by kernel_rfl) (And.intro True.intro (And.intro True.intro (And.intro True.intro (And.intro (And.intro True.intro (L_played_j0 k)) (And.intro True.intro True.intro))))) rfl (Eq.trans (L_played_e cblk_New R14_New (L_do k) (L_want k) (L_played_l0 k) k _ _ _ _ _ H K) h)
  · cases h
/-! ### R14_Block_get: function 66 -/
def R14_Block_get_b {R : Type} (R14_Block_in : Option Addr → Int → Int → Heap → (Bool → Option R) → Option R) (k : Nat) (p496 : Option Addr) (n497 : Int) (n498 : Int) (H : Heap) (K : Int → Bool → Bool → Bool → Heap → Option R) : Option R :=
hal H [.int .i64 0, .bool false, .bool false, .bool false] fun p499 H500 =>
R14_Block_in p496 n497 n498 H500 fun t501 =>
bif (!t501) then (hst H500 p499 [.int .i64 0, .bool false, .bool false, .bool false] fun H502 =>
ldI .i64 H502 (pad p499 0) fun n503 =>
ldB H502 (pad p499 1) fun t504 =>
ldB H502 (pad p499 2) fun t505 =>
ldB H502 (pad p499 3) fun t506 =>
K n503 t504 t505 t506 H502)
 else (hnil p496 fun p507 =>
hfad 2 p507 fun p508 =>
ldL H500 p508 fun q509 l510 c511 =>
hnil p496 fun p512 =>
hfad 0 p512 fun p513 =>
ldI .i64 H500 p513 fun n514 =>
hidx q509 l510 (IntKind.wrap .i64 ((IntKind.wrap .i64 (n498 * n514)) + n497)) 4 fun p515 =>
ldI .i64 H500 (pad p515 0) fun n516 =>
ldB H500 (pad p515 1) fun t517 =>
ldB H500 (pad p515 2) fun t518 =>
ldB H500 (pad p515 3) fun t519 =>
hst H500 p499 [.int .i64 n516, .bool t517, .bool t518, .bool t519] fun H520 =>
ldI .i64 H520 (pad p499 0) fun n521 =>
ldB H520 (pad p499 1) fun t522 =>
ldB H520 (pad p499 2) fun t523 =>
ldB H520 (pad p499 3) fun t524 =>
K n521 t522 t523 t524 H520)

def R14_Block_get {R : Type} (p496 : Option Addr) (n497 : Int) (n498 : Int) (H : Heap) (K : Int → Bool → Bool → Bool → Heap → Option R) : Option R := R14_Block_get_b R14_Block_in 0 p496 n497 n498 H K

def R14_Block_get_Ct {R : Type} (R14_Block_in : Option Addr → Int → Int → Heap → (Bool → Option R) → Option R) : Tab R := tcons 61 (R14_Block_in_ca R14_Block_in) <| fun _ _ _ _ => none
def R14_Block_get_C (R : Type) (k : Nat) : Tab R := R14_Block_get_Ct R14_Block_in
theorem R14_Block_get_S (R : Type) (k : Nat) : CSound Try.prog (R14_Block_get_C R k) := csound_cons (R14_Block_in_cs R k) <| csound_nil
def R14_Block_get_Jt {R : Type} (k : Nat) : JTab R := fun _ _ _ _ => none
def R14_Block_get_J (R : Type) (k : Nat) : JTab R := R14_Block_get_Jt k
def R14_Block_get_at : AT := (.seq (.reg [0, 1, 2, 6] []) (.seq (.seq (.reg [0, 1, 2, 6, 11] []) (.cond (.seq (.reg [6] []) .leaf) .leaf)) (.seq (.reg [6] [[], [0], [0, 1], [0, 1, 2], [], [], [5], [5, 6], [5, 6, 7], [4, 5, 6, 7, 8], [], [4, 5, 6, 7, 8, 9, 10], [0, 1, 2, 3, 4, 5, 6, 7, 8, 9, 10, 11], [0, 1, 2, 3, 4, 5, 6, 7, 8, 9, 10, 11, 12], [0, 1, 2, 3, 4, 5, 6, 7, 8, 9, 10, 11, 12, 13]]) .leaf)))
def R14_Block_get_f : IFn := ⟨27, [.cell 6 (.agg [(.int .i64), .bool, .bool, .bool])], (.seq (.reg [⟨some 6, .alc [.int .i64 0, .bool false, .bool false, .bool false], none⟩] [0, 1, 2, 6]) (.seq (.seq (.reg [⟨some 7, .mov (.t 0), none⟩,
 ⟨some 8, .mov (.t 1), none⟩,
 ⟨some 9, .mov (.t 2), none⟩,
 ⟨some 10, .call 61 [(.t 7), (.t 8), (.t 9)] (.one (.sc .bool)), none⟩,
 ⟨some 11, .lnot (.t 10), none⟩] [0, 1, 2, 6, 11]) (.cond (.t 11) (.seq (.reg [⟨some 12, .bld [.int .i64 0, .bool false, .bool false, .bool false] [], none⟩,
 ⟨none, .st 4 (.t 6) (.t 12), none⟩] [6]) .ret) .skip)) (.seq (.reg [⟨some 13, .mov (.t 0), none⟩,
 ⟨some 14, .nilc (.t 13), none⟩,
 ⟨some 15, .fad 2 (.t 14), none⟩,
 ⟨some 16, .ld (.sc .slc) (.t 15), none⟩,
 ⟨some 17, .mov (.t 2), none⟩,
 ⟨some 18, .mov (.t 0), none⟩,
 ⟨some 19, .nilc (.t 18), none⟩,
 ⟨some 20, .fad 0 (.t 19), none⟩,
 ⟨some 21, .ld (.sc (.int .i64)) (.t 20), none⟩,
 ⟨some 22, .bin .mul .i64 (.t 17) (.t 21), none⟩,
 ⟨some 23, .mov (.t 1), none⟩,
 ⟨some 24, .bin .add .i64 (.t 22) (.t 23), none⟩,
 ⟨some 25, .ids 4 (.t 16) (.t 24), none⟩,
 ⟨some 26, .ld (.agg [(.int .i64), .bool, .bool, .bool]) (.t 25), none⟩,
 ⟨none, .st 4 (.t 6) (.t 26), none⟩] [6]) .ret)))⟩
def R14_Block_get_ca {R : Type} (f : Option Addr → Int → Int → Heap → (Int → Bool → Bool → Bool → Heap → Option R) → Option R) (args : List Value) (H : Heap) (K : Value → Heap → Option R) : Option R :=
  match args with
  | [.pointer p496, .int .i64 n497, .int .i64 n498] => f p496 n497 n498 H (fun n1322 t1323 t1324 t1325 H => K (.agg ⟨[.int .i64 n1322, .bool t1323, .bool t1324, .bool t1325]⟩) H)
  | _ => none
def R14_Block_get_c (R : Type) (k : Nat) (args : List Value) (H : Heap) (K : Value → Heap → Option R) : Option R := R14_Block_get_ca R14_Block_get args H K
theorem R14_Block_get_e {R : Type} (R14_Block_in : Option Addr → Int → Int → Heap → (Bool → Option R) → Option R) (k : Nat) (p496 : Option Addr) (n497 : Int) (n498 : Int) (H : Heap) (K : Value → Heap → Option R) : evF (R14_Block_get_Ct R14_Block_in) (R14_Block_get_Jt k) R14_Block_get_f [.pointer p496, .int .i64 n497, .int .i64 n498] H K = R14_Block_get_b R14_Block_in k p496 n497 n498 H (fun n1322 t1323 t1324 t1325 H => K (.agg ⟨[.int .i64 n1322, .bool t1323, .bool t1324, .bool t1325]⟩) H) := by kernel_rfl
theorem R14_Block_get_cs (R : Type) (k : Nat) : ∀ args H K r, R14_Block_get_c R k args H K = some r → ∃ v H', Tri Try.prog 66 args H v H' ∧ K v H' = some r := by
  intro args H K r h
  unfold R14_Block_get_c R14_Block_get_ca at h
  split at h
  · exact evF_ok (C := R14_Block_get_C R 0) (an := An) (t := R14_Block_get_at) (fn := Try.f66) (c := (Try.f66.body.getD .skip)) (ifn := R14_Block_get_f) (R14_Block_get_S R 0) (R14_Block_get_J R 0) Try.func66 (by kernel_rfl) (by kernel_rfl) (And.intro True.intro (And.intro (And.intro True.intro (And.intro (And.intro True.intro True.intro) True.intro)) (And.intro True.intro True.intro))) rfl (Eq.trans (R14_Block_get_e R14_Block_in 0 _ _ _ H K) h)
  · cases h
/-! ### R14_Block_count: function 62 -/
def R14_Block_count_b {R : Type} (R14_Block_get : Option Addr → Int → Int → Heap → (Int → Bool → Bool → Bool → Heap → Option R) → Option R) (k : Nat) (p493 : Option Addr) (n494 : Int) (n495 : Int) (H : Heap) (K : Int → Heap → Option R) : Option R :=
R14_Block_get p493 n494 n495 H fun n496 t497 t498 t499 H500 =>
bif t497 then (K 1 H500)
 else (K 0 H500)

def R14_Block_count {R : Type} (p493 : Option Addr) (n494 : Int) (n495 : Int) (H : Heap) (K : Int → Heap → Option R) : Option R := R14_Block_count_b R14_Block_get 0 p493 n494 n495 H K

def R14_Block_count_Ct {R : Type} (R14_Block_get : Option Addr → Int → Int → Heap → (Int → Bool → Bool → Bool → Heap → Option R) → Option R) : Tab R := tcons 66 (R14_Block_get_ca R14_Block_get) <| fun _ _ _ _ => none
def R14_Block_count_C (R : Type) (k : Nat) : Tab R := R14_Block_count_Ct R14_Block_get
theorem R14_Block_count_S (R : Type) (k : Nat) : CSound Try.prog (R14_Block_count_C R k) := csound_cons (R14_Block_get_cs R k) <| csound_nil
def R14_Block_count_Jt {R : Type} (k : Nat) : JTab R := fun _ _ _ _ => none
def R14_Block_count_J (R : Type) (k : Nat) : JTab R := R14_Block_count_Jt k
def R14_Block_count_at : AT := (.seq (.reg [0, 1, 2] []) (.seq (.seq (.reg [11] []) (.cond (.seq (.reg [6] []) .leaf) .leaf)) (.seq (.reg [6] []) .leaf)))
def R14_Block_count_f : IFn := ⟨12, [.t 6], (.seq (.reg [⟨some 6, .mov (.c (Go.Value.int Go.IntKind.i64 0)), none⟩] [0, 1, 2]) (.seq (.seq (.reg [⟨some 7, .mov (.t 0), none⟩,
 ⟨some 8, .mov (.t 1), none⟩,
 ⟨some 9, .mov (.t 2), none⟩,
 ⟨some 10, .call 66 [(.t 7), (.t 8), (.t 9)] (.one (.agg [(.int .i64), .bool, .bool, .bool])), none⟩,
 ⟨some 11, .fld 1 1 (.sc .bool) (.t 10), none⟩] [11]) (.cond (.t 11) (.seq (.reg [⟨some 6, .mov (.c (Go.Value.int Go.IntKind.i64 1)), none⟩] [6]) .ret) .skip)) (.seq (.reg [⟨some 6, .mov (.c (Go.Value.int Go.IntKind.i64 0)), none⟩] [6]) .ret)))⟩
def R14_Block_count_ca {R : Type} (f : Option Addr → Int → Int → Heap → (Int → Heap → Option R) → Option R) (args : List Value) (H : Heap) (K : Value → Heap → Option R) : Option R :=
  match args with
  | [.pointer p493, .int .i64 n494, .int .i64 n495] => f p493 n494 n495 H (fun n1326 H => K (.int .i64 n1326) H)
  | _ => none
def R14_Block_count_c (R : Type) (k : Nat) (args : List Value) (H : Heap) (K : Value → Heap → Option R) : Option R := R14_Block_count_ca R14_Block_count args H K
theorem R14_Block_count_e {R : Type} (R14_Block_get : Option Addr → Int → Int → Heap → (Int → Bool → Bool → Bool → Heap → Option R) → Option R) (k : Nat) (p493 : Option Addr) (n494 : Int) (n495 : Int) (H : Heap) (K : Value → Heap → Option R) : evF (R14_Block_count_Ct R14_Block_get) (R14_Block_count_Jt k) R14_Block_count_f [.pointer p493, .int .i64 n494, .int .i64 n495] H K = R14_Block_count_b R14_Block_get k p493 n494 n495 H (fun n1326 H => K (.int .i64 n1326) H) := by kernel_rfl
theorem R14_Block_count_cs (R : Type) (k : Nat) : ∀ args H K r, R14_Block_count_c R k args H K = some r → ∃ v H', Tri Try.prog 62 args H v H' ∧ K v H' = some r := by
  intro args H K r h
  unfold R14_Block_count_c R14_Block_count_ca at h
  split at h
  · exact evF_ok (C := R14_Block_count_C R 0) (an := An) (t := R14_Block_count_at) (fn := Try.f62) (c := (Try.f62.body.getD .skip)) (ifn := R14_Block_count_f) (R14_Block_count_S R 0) (R14_Block_count_J R 0) Try.func62 (by kernel_rfl) (by kernel_rfl) (And.intro True.intro (And.intro (And.intro True.intro (And.intro (And.intro True.intro True.intro) True.intro)) (And.intro True.intro True.intro))) rfl (Eq.trans (R14_Block_count_e R14_Block_get 0 _ _ _ H K) h)
  · cases h
/-! ### R14_Block_Neighbors: function 44 -/
def R14_Block_Neighbors_p0_b {R : Type} (k : Nat) (p503 : Option Addr) (n504 : Int) (n505 : Int) (t506 : Bool) (n507 : Int) (n508 : Int) (n509 : Int) (KN : Option Addr → Int → Int → Int → Int → Int → Bool → Option R) : Option R :=
bif (!t506) then (KN p503 n504 n505 n507 n508 n509 true)
 else (KN p503 n504 n505 n507 n508 n509 ((Int.tmod n505 4) != 3))
def R14_Block_Neighbors_p0 {R : Type} (k : Nat) (p503 : Option Addr) (n504 : Int) (n505 : Int) (t506 : Bool) (n507 : Int) (n508 : Int) (n509 : Int) (KN : Option Addr → Int → Int → Int → Int → Int → Bool → Option R) : Option R := R14_Block_Neighbors_p0_b k p503 n504 n505 t506 n507 n508 n509 KN

def R14_Block_Neighbors_b {R : Type} (R14_Block_in : Option Addr → Int → Int → Heap → (Bool → Option R) → Option R) (R14_Block_count : Option Addr → Int → Int → Heap → (Int → Heap → Option R) → Option R) (R14_Block_Neighbors_p0 : Option Addr → Int → Int → Bool → Int → Int → Int → (Option Addr → Int → Int → Int → Int → Int → Bool → Option R) → Option R) (k : Nat) (p488 : Option Addr) (n489 : Int) (n490 : Int) (t491 : Bool) (H : Heap) (K : Int → Int → Int → Heap → Option R) : Option R :=
R14_Block_in p488 n489 n490 H fun t492 =>
bif (!t492) then (K 0 0 0 H)
 else (R14_Block_count p488 (IntKind.wrap .i64 (n489 - 1)) n490 H fun n493 H494 =>
R14_Block_count p488 (IntKind.wrap .i64 (n489 + 1)) n490 H494 fun n495 H496 =>
R14_Block_count p488 n489 (IntKind.wrap .i64 (n490 - 1)) H496 fun n497 H498 =>
R14_Block_count p488 (IntKind.wrap .i64 (n489 - 1)) (IntKind.wrap .i64 (n490 - 1)) H498 fun n499 H500 =>
R14_Block_count p488 (IntKind.wrap .i64 (n489 + 1)) (IntKind.wrap .i64 (n490 - 1)) H500 fun n501 H502 =>
R14_Block_Neighbors_p0 p488 n489 n490 t491 (IntKind.wrap .i64 (n493 + n495)) n497 (IntKind.wrap .i64 (n499 + n501)) (fun p517 n518 n519 n520 n521 n522 t523 =>
bif t523 then (R14_Block_count p517 n518 (IntKind.wrap .i64 (n519 + 1)) H502 fun n524 H525 =>
R14_Block_count p517 (IntKind.wrap .i64 (n518 - 1)) (IntKind.wrap .i64 (n519 + 1)) H525 fun n526 H527 =>
R14_Block_count p517 (IntKind.wrap .i64 (n518 + 1)) (IntKind.wrap .i64 (n519 + 1)) H527 fun n528 H529 =>
K n520 (IntKind.wrap .i64 (n521 + n524)) (IntKind.wrap .i64 ((IntKind.wrap .i64 (n522 + n526)) + n528)) H529)
 else (K n520 n521 n522 H502)))

def R14_Block_Neighbors {R : Type} (k : Nat) (p488 : Option Addr) (n489 : Int) (n490 : Int) (t491 : Bool) (H : Heap) (K : Int → Int → Int → Heap → Option R) : Option R := R14_Block_Neighbors_b R14_Block_in R14_Block_count (R14_Block_Neighbors_p0 k) k p488 n489 n490 t491 H K

def R14_Block_Neighbors_Ct {R : Type} (R14_Block_in : Option Addr → Int → Int → Heap → (Bool → Option R) → Option R) (R14_Block_count : Option Addr → Int → Int → Heap → (Int → Heap → Option R) → Option R) : Tab R := tcons 61 (R14_Block_in_ca R14_Block_in) <| tcons 62 (R14_Block_count_ca R14_Block_count) <| fun _ _ _ _ => none
def R14_Block_Neighbors_C (R : Type) (k : Nat) : Tab R := R14_Block_Neighbors_Ct R14_Block_in R14_Block_count
theorem R14_Block_Neighbors_S (R : Type) (k : Nat) : CSound Try.prog (R14_Block_Neighbors_C R k) := csound_cons (R14_Block_in_cs R k) <| csound_cons (R14_Block_count_cs R k) <| csound_nil
def R14_Block_Neighbors_aa0 {R : Type} (f : Option Addr → Int → Int → Bool → Int → Int → Int → (Option Addr → Int → Int → Int → Int → Int → Bool → Option R) → Option R) (n : Nat) (vals : List Value) (H : Heap) (K : Xit → Env → Heap → Option R) : Option R :=
  match vals with
  | [.pointer p503, .int .i64 n504, .int .i64 n505, .bool t506, .int .i64 n507, .int .i64 n508, .int .i64 n509] => f p503 n504 n505 t506 n507 n508 n509 (fun p1327 n1328 n1329 n1330 n1331 n1332 t1333 => K .normal [(0, .pointer p1327), (1, .int .i64 n1328), (2, .int .i64 n1329), (8, .int .i64 n1330), (9, .int .i64 n1331), (10, .int .i64 n1332), (51, .bool t1333)] H)
  | _ => none
def R14_Block_Neighbors_a0 (R : Type) (k n : Nat) (vals : List Value) (H : Heap) (K : Xit → Env → Heap → Option R) : Option R := R14_Block_Neighbors_aa0 (R14_Block_Neighbors_p0 k) n vals H K
def R14_Block_Neighbors_Jt {R : Type} (k : Nat) (R14_Block_Neighbors_p0 : Option Addr → Int → Int → Bool → Int → Int → Int → (Option Addr → Int → Int → Int → Int → Int → Bool → Option R) → Option R) : JTab R := tcons 0 (R14_Block_Neighbors_aa0 R14_Block_Neighbors_p0 k) <| fun _ _ _ _ => none
def R14_Block_Neighbors_J (R : Type) (k : Nat) : JTab R := R14_Block_Neighbors_Jt k (R14_Block_Neighbors_p0 k)
def R14_Block_Neighbors_at : AT := (.seq (.reg [0, 1, 2, 3] []) (.seq (.seq (.reg [0, 1, 2, 3, 15] []) (.cond (.seq (.reg [8, 9, 10] []) .leaf) .leaf)) (.seq (.reg [0, 1, 2, 3, 8] []) (.seq (.reg [0, 1, 2, 3, 8, 9] []) (.seq (.reg [0, 1, 2, 3, 8, 9, 10] []) (.seq (.seq (.opq 0 [0, 1, 2, 3, 8, 9, 10] ⟨[0, 1, 2, 8, 9, 10, 51], [], []⟩ (.reg [0, 1, 2, 8, 9, 10, 51] [])) (.cond (.seq (.reg [0, 1, 2, 8, 9, 10] []) (.reg [8, 9, 10] [])) .leaf)) (.seq (.reg [8, 9, 10] []) .leaf)))))))
def R14_Block_Neighbors_i0 : IC := (.reg [⟨some 45, .mov (.t 3), none⟩,
 ⟨some 46, .lnot (.t 45), none⟩,
 ⟨some 47, .mov (.t 46), none⟩,
 ⟨some 48, .mov (.t 2), some (47, false)⟩,
 ⟨some 49, .bin .rem .i64 (.t 48) (.c (Go.Value.int Go.IntKind.i64 4)), some (47, false)⟩,
 ⟨some 50, .cmp .neq (.t 49) (.c (Go.Value.int Go.IntKind.i64 3)), some (47, false)⟩,
 ⟨some 51, .pick (.t 47) (.c (Go.Value.bool true)) (.t 50), none⟩] [0, 1, 2, 8, 9, 10, 51])
def R14_Block_Neighbors_f : IFn := ⟨77, [.t 8, .t 9, .t 10], (.seq (.reg [⟨some 8, .mov (.c (Go.Value.int Go.IntKind.i64 0)), none⟩,
 ⟨some 9, .mov (.c (Go.Value.int Go.IntKind.i64 0)), none⟩,
 ⟨some 10, .mov (.c (Go.Value.int Go.IntKind.i64 0)), none⟩] [0, 1, 2, 3]) (.seq (.seq (.reg [⟨some 11, .mov (.t 0), none⟩,
 ⟨some 12, .mov (.t 1), none⟩,
 ⟨some 13, .mov (.t 2), none⟩,
 ⟨some 14, .call 61 [(.t 11), (.t 12), (.t 13)] (.one (.sc .bool)), none⟩,
 ⟨some 15, .lnot (.t 14), none⟩] [0, 1, 2, 3, 15]) (.cond (.t 15) (.seq (.reg [⟨some 8, .mov (.c (Go.Value.int Go.IntKind.i64 0)), none⟩,
 ⟨some 9, .mov (.c (Go.Value.int Go.IntKind.i64 0)), none⟩,
 ⟨some 10, .mov (.c (Go.Value.int Go.IntKind.i64 0)), none⟩] [8, 9, 10]) .ret) .skip)) (.seq (.reg [⟨some 16, .mov (.t 0), none⟩,
 ⟨some 17, .mov (.t 1), none⟩,
 ⟨some 18, .bin .sub .i64 (.t 17) (.c (Go.Value.int Go.IntKind.i64 1)), none⟩,
 ⟨some 19, .mov (.t 2), none⟩,
 ⟨some 20, .call 62 [(.t 16), (.t 18), (.t 19)] (.one (.sc (.int .i64))), none⟩,
 ⟨some 21, .mov (.t 0), none⟩,
 ⟨some 22, .mov (.t 1), none⟩,
 ⟨some 23, .bin .add .i64 (.t 22) (.c (Go.Value.int Go.IntKind.i64 1)), none⟩,
 ⟨some 24, .mov (.t 2), none⟩,
 ⟨some 25, .call 62 [(.t 21), (.t 23), (.t 24)] (.one (.sc (.int .i64))), none⟩,
 ⟨some 26, .bin .add .i64 (.t 20) (.t 25), none⟩,
 ⟨some 8, .mov (.t 26), none⟩] [0, 1, 2, 3, 8]) (.seq (.reg [⟨some 27, .mov (.t 0), none⟩,
 ⟨some 28, .mov (.t 1), none⟩,
 ⟨some 29, .mov (.t 2), none⟩,
 ⟨some 30, .bin .sub .i64 (.t 29) (.c (Go.Value.int Go.IntKind.i64 1)), none⟩,
 ⟨some 31, .call 62 [(.t 27), (.t 28), (.t 30)] (.one (.sc (.int .i64))), none⟩,
 ⟨some 9, .mov (.t 31), none⟩] [0, 1, 2, 3, 8, 9]) (.seq (.reg [⟨some 32, .mov (.t 0), none⟩,
 ⟨some 33, .mov (.t 1), none⟩,
 ⟨some 34, .bin .sub .i64 (.t 33) (.c (Go.Value.int Go.IntKind.i64 1)), none⟩,
 ⟨some 35, .mov (.t 2), none⟩,
 ⟨some 36, .bin .sub .i64 (.t 35) (.c (Go.Value.int Go.IntKind.i64 1)), none⟩,
 ⟨some 37, .call 62 [(.t 32), (.t 34), (.t 36)] (.one (.sc (.int .i64))), none⟩,
 ⟨some 38, .mov (.t 0), none⟩,
 ⟨some 39, .mov (.t 1), none⟩,
 ⟨some 40, .bin .add .i64 (.t 39) (.c (Go.Value.int Go.IntKind.i64 1)), none⟩,
 ⟨some 41, .mov (.t 2), none⟩,
 ⟨some 42, .bin .sub .i64 (.t 41) (.c (Go.Value.int Go.IntKind.i64 1)), none⟩,
 ⟨some 43, .call 62 [(.t 38), (.t 40), (.t 42)] (.one (.sc (.int .i64))), none⟩,
 ⟨some 44, .bin .add .i64 (.t 37) (.t 43), none⟩,
 ⟨some 10, .mov (.t 44), none⟩] [0, 1, 2, 3, 8, 9, 10]) (.seq (.seq (.opq 0 [0, 1, 2, 3, 8, 9, 10] R14_Block_Neighbors_i0) (.cond (.t 51) (.seq (.reg [⟨some 52, .mov (.t 9), none⟩,
 ⟨some 53, .mov (.t 0), none⟩,
 ⟨some 54, .mov (.t 1), none⟩,
 ⟨some 55, .mov (.t 2), none⟩,
 ⟨some 56, .bin .add .i64 (.t 55) (.c (Go.Value.int Go.IntKind.i64 1)), none⟩,
 ⟨some 57, .call 62 [(.t 53), (.t 54), (.t 56)] (.one (.sc (.int .i64))), none⟩,
 ⟨some 58, .bin .add .i64 (.t 52) (.t 57), none⟩,
 ⟨some 9, .mov (.t 58), none⟩] [0, 1, 2, 8, 9, 10]) (.reg [⟨some 59, .mov (.t 10), none⟩,
 ⟨some 60, .mov (.t 0), none⟩,
 ⟨some 61, .mov (.t 1), none⟩,
 ⟨some 62, .bin .sub .i64 (.t 61) (.c (Go.Value.int Go.IntKind.i64 1)), none⟩,
 ⟨some 63, .mov (.t 2), none⟩,
 ⟨some 64, .bin .add .i64 (.t 63) (.c (Go.Value.int Go.IntKind.i64 1)), none⟩,
 ⟨some 65, .call 62 [(.t 60), (.t 62), (.t 64)] (.one (.sc (.int .i64))), none⟩,
 ⟨some 66, .bin .add .i64 (.t 59) (.t 65), none⟩,
 ⟨some 67, .mov (.t 0), none⟩,
 ⟨some 68, .mov (.t 1), none⟩,
 ⟨some 69, .bin .add .i64 (.t 68) (.c (Go.Value.int Go.IntKind.i64 1)), none⟩,
 ⟨some 70, .mov (.t 2), none⟩,
 ⟨some 71, .bin .add .i64 (.t 70) (.c (Go.Value.int Go.IntKind.i64 1)), none⟩,
 ⟨some 72, .call 62 [(.t 67), (.t 69), (.t 71)] (.one (.sc (.int .i64))), none⟩,
 ⟨some 73, .bin .add .i64 (.t 66) (.t 72), none⟩,
 ⟨some 10, .mov (.t 73), none⟩] [8, 9, 10])) .skip)) (.seq (.reg [⟨some 74, .mov (.t 8), none⟩,
 ⟨some 75, .mov (.t 9), none⟩,
 ⟨some 76, .mov (.t 10), none⟩,
 ⟨some 8, .mov (.t 74), none⟩,
 ⟨some 9, .mov (.t 75), none⟩,
 ⟨some 10, .mov (.t 76), none⟩] [8, 9, 10]) .ret)))))))⟩
theorem R14_Block_Neighbors_e0 {R : Type} (R14_Block_in : Option Addr → Int → Int → Heap → (Bool → Option R) → Option R) (R14_Block_count : Option Addr → Int → Int → Heap → (Int → Heap → Option R) → Option R) (R14_Block_Neighbors_p0 : Option Addr → Int → Int → Bool → Int → Int → Int → (Option Addr → Int → Int → Int → Int → Int → Bool → Option R) → Option R) (k : Nat) (p503 : Option Addr) (n504 : Int) (n505 : Int) (t506 : Bool) (n507 : Int) (n508 : Int) (n509 : Int) (H : Heap) (K : Xit → Env → Heap → Option R) : evJ (R14_Block_Neighbors_Ct R14_Block_in R14_Block_count) (R14_Block_Neighbors_Jt k R14_Block_Neighbors_p0) R14_Block_Neighbors_i0 (List.zip [0, 1, 2, 3, 8, 9, 10] [.pointer p503, .int .i64 n504, .int .i64 n505, .bool t506, .int .i64 n507, .int .i64 n508, .int .i64 n509]) H (fun x e' H' => K x (clean e' ((⟨[0, 1, 2, 8, 9, 10, 51], [], []⟩ : Out).of x)) H') = R14_Block_Neighbors_p0_b k p503 n504 n505 t506 n507 n508 n509 (fun p1327 n1328 n1329 n1330 n1331 n1332 t1333 => K .normal [(0, .pointer p1327), (1, .int .i64 n1328), (2, .int .i64 n1329), (8, .int .i64 n1330), (9, .int .i64 n1331), (10, .int .i64 n1332), (51, .bool t1333)] H) := by kernel_rfl
theorem R14_Block_Neighbors_j0 {R : Type} (k : Nat) : JS Try.prog 77 (R14_Block_Neighbors_a0 R k k) [0, 1, 2, 3, 8, 9, 10] ⟨[0, 1, 2, 8, 9, 10, 51], [], []⟩ (sel [1, 1, 1, 1, 1, 0, 0] (Try.f44.body.getD .skip)) :=
  piece_ok (nt := 77) (c := (sel [1, 1, 1, 1, 1, 0, 0] (Try.f44.body.getD .skip))) (C := R14_Block_Neighbors_C R k) (an := An) (t := (.reg [0, 1, 2, 8, 9, 10, 51] [])) (ic := R14_Block_Neighbors_i0) (R14_Block_Neighbors_S R k) (R14_Block_Neighbors_J R k) (by kernel_rfl) True.intro (R14_Block_Neighbors_a0 R k k)
    (fun vals H K r h => by
      unfold R14_Block_Neighbors_a0 R14_Block_Neighbors_aa0 at h
      split at h <;> first | (cases h; done) | exact Eq.trans (R14_Block_Neighbors_e0 R14_Block_in R14_Block_count (R14_Block_Neighbors_p0 k) k _ _ _ _ _ _ _ H K) h)
def R14_Block_Neighbors_ca {R : Type} (f : Option Addr → Int → Int → Bool → Heap → (Int → Int → Int → Heap → Option R) → Option R) (args : List Value) (H : Heap) (K : Value → Heap → Option R) : Option R :=
  match args with
  | [.pointer p488, .int .i64 n489, .int .i64 n490, .bool t491] => f p488 n489 n490 t491 H (fun n1334 n1335 n1336 H => K (.tuple ⟨[.int .i64 n1334, .int .i64 n1335, .int .i64 n1336]⟩) H)
  | _ => none
def R14_Block_Neighbors_c (R : Type) (k : Nat) (args : List Value) (H : Heap) (K : Value → Heap → Option R) : Option R := R14_Block_Neighbors_ca (R14_Block_Neighbors k) args H K
theorem R14_Block_Neighbors_e {R : Type} (R14_Block_in : Option Addr → Int → Int → Heap → (Bool → Option R) → Option R) (R14_Block_count : Option Addr → Int → Int → Heap → (Int → Heap → Option R) → Option R) (R14_Block_Neighbors_p0 : Option Addr → Int → Int → Bool → Int → Int → Int → (Option Addr → Int → Int → Int → Int → Int → Bool → Option R) → Option R) (k : Nat) (p488 : Option Addr) (n489 : Int) (n490 : Int) (t491 : Bool) (H : Heap) (K : Value → Heap → Option R) : evF (R14_Block_Neighbors_Ct R14_Block_in R14_Block_count) (R14_Block_Neighbors_Jt k R14_Block_Neighbors_p0) R14_Block_Neighbors_f [.pointer p488, .int .i64 n489, .int .i64 n490, .bool t491] H K = R14_Block_Neighbors_b R14_Block_in R14_Block_count R14_Block_Neighbors_p0 k p488 n489 n490 t491 H (fun n1334 n1335 n1336 H => K (.tuple ⟨[.int .i64 n1334, .int .i64 n1335, .int .i64 n1336]⟩) H) := by kernel_rfl
theorem R14_Block_Neighbors_cs (R : Type) (k : Nat) : ∀ args H K r, R14_Block_Neighbors_c R k args H K = some r → ∃ v H', Tri Try.prog 44 args H v H' ∧ K v H' = some r := by
  intro args H K r h
  unfold R14_Block_Neighbors_c R14_Block_Neighbors_ca at h
  split at h
  · exact evF_ok (C := R14_Block_Neighbors_C R k) (an := An) (t := R14_Block_Neighbors_at) (fn := Try.f44) (c := (Try.f44.body.getD .skip)) (ifn := R14_Block_Neighbors_f) (R14_Block_Neighbors_S R k) (R14_Block_Neighbors_J R k) Try.func44 (by kernel_rfl) (by kernel_rfl) (And.intro True.intro (And.intro (And.intro True.intro (And.intro (And.intro True.intro True.intro) True.intro)) (And.intro True.intro (And.intro True.intro (And.intro True.intro (And.intro (And.intro (R14_Block_Neighbors_j0 k) (And.intro (And.intro True.intro True.intro) True.intro)) (And.intro True.intro True.intro))))))) rfl (Eq.trans (R14_Block_Neighbors_e R14_Block_in R14_Block_count (R14_Block_Neighbors_p0 k) k _ _ _ _ H K) h)
  · cases h
/-! ### R14_Block_sign: function 63 -/
def R14_Block_sign_b {R : Type} (R14_Block_get : Option Addr → Int → Int → Heap → (Int → Bool → Bool → Bool → Heap → Option R) → Option R) (k : Nat) (p544 : Option Addr) (n545 : Int) (n546 : Int) (H : Heap) (K : Int → Heap → Option R) : Option R :=
R14_Block_get p544 n545 n546 H fun n547 t548 t549 t550 H551 =>
hal H551 [.int .i64 0, .bool false, .bool false, .bool false] fun p552 H553 =>
hst H553 p552 [.int .i64 n547, .bool t548, .bool t549, .bool t550] fun H554 =>
hfad 1 p552 fun p555 =>
ldB H554 p555 fun t556 =>
bif (!t556) then (K 0 H554)
 else (hfad 0 p552 fun p557 =>
ldI .i64 H554 p557 fun n558 =>
bif decide (n558 < 0) then (K (-1) H554)
 else (K 1 H554))

def R14_Block_sign {R : Type} (p544 : Option Addr) (n545 : Int) (n546 : Int) (H : Heap) (K : Int → Heap → Option R) : Option R := R14_Block_sign_b R14_Block_get 0 p544 n545 n546 H K

def R14_Block_sign_Ct {R : Type} (R14_Block_get : Option Addr → Int → Int → Heap → (Int → Bool → Bool → Bool → Heap → Option R) → Option R) : Tab R := tcons 66 (R14_Block_get_ca R14_Block_get) <| fun _ _ _ _ => none
def R14_Block_sign_C (R : Type) (k : Nat) : Tab R := R14_Block_sign_Ct R14_Block_get
theorem R14_Block_sign_S (R : Type) (k : Nat) : CSound Try.prog (R14_Block_sign_C R k) := csound_cons (R14_Block_get_cs R k) <| csound_nil
def R14_Block_sign_Jt {R : Type} (k : Nat) : JTab R := fun _ _ _ _ => none
def R14_Block_sign_J (R : Type) (k : Nat) : JTab R := R14_Block_sign_Jt k
def R14_Block_sign_at : AT := (.seq (.reg [0, 1, 2] []) (.seq (.reg [7] []) (.seq (.seq (.reg [7, 14] []) (.cond (.seq (.reg [6] []) .leaf) .leaf)) (.seq (.seq (.reg [17] []) (.cond (.seq (.reg [6] []) .leaf) .leaf)) (.seq (.reg [6] []) .leaf)))))
def R14_Block_sign_f : IFn := ⟨18, [.t 6], (.seq (.reg [⟨some 6, .mov (.c (Go.Value.int Go.IntKind.i64 0)), none⟩] [0, 1, 2]) (.seq (.reg [⟨some 8, .mov (.t 0), none⟩,
 ⟨some 9, .mov (.t 1), none⟩,
 ⟨some 10, .mov (.t 2), none⟩,
 ⟨some 11, .call 66 [(.t 8), (.t 9), (.t 10)] (.one (.agg [(.int .i64), .bool, .bool, .bool])), none⟩,
 ⟨some 7, .alc [.int .i64 0, .bool false, .bool false, .bool false], none⟩,
 ⟨none, .st 4 (.t 7) (.t 11), none⟩] [7]) (.seq (.seq (.reg [⟨some 12, .fad 1 (.t 7), none⟩,
 ⟨some 13, .ld (.sc .bool) (.t 12), none⟩,
 ⟨some 14, .lnot (.t 13), none⟩] [7, 14]) (.cond (.t 14) (.seq (.reg [⟨some 6, .mov (.c (Go.Value.int Go.IntKind.i64 0)), none⟩] [6]) .ret) .skip)) (.seq (.seq (.reg [⟨some 15, .fad 0 (.t 7), none⟩,
 ⟨some 16, .ld (.sc (.int .i64)) (.t 15), none⟩,
 ⟨some 17, .cmp .lss (.t 16) (.c (Go.Value.int Go.IntKind.i64 0)), none⟩] [17]) (.cond (.t 17) (.seq (.reg [⟨some 6, .mov (.c (Go.Value.int Go.IntKind.i64 (-1))), none⟩] [6]) .ret) .skip)) (.seq (.reg [⟨some 6, .mov (.c (Go.Value.int Go.IntKind.i64 1)), none⟩] [6]) .ret)))))⟩
def R14_Block_sign_ca {R : Type} (f : Option Addr → Int → Int → Heap → (Int → Heap → Option R) → Option R) (args : List Value) (H : Heap) (K : Value → Heap → Option R) : Option R :=
  match args with
  | [.pointer p544, .int .i64 n545, .int .i64 n546] => f p544 n545 n546 H (fun n1337 H => K (.int .i64 n1337) H)
  | _ => none
def R14_Block_sign_c (R : Type) (k : Nat) (args : List Value) (H : Heap) (K : Value → Heap → Option R) : Option R := R14_Block_sign_ca R14_Block_sign args H K
theorem R14_Block_sign_e {R : Type} (R14_Block_get : Option Addr → Int → Int → Heap → (Int → Bool → Bool → Bool → Heap → Option R) → Option R) (k : Nat) (p544 : Option Addr) (n545 : Int) (n546 : Int) (H : Heap) (K : Value → Heap → Option R) : evF (R14_Block_sign_Ct R14_Block_get) (R14_Block_sign_Jt k) R14_Block_sign_f [.pointer p544, .int .i64 n545, .int .i64 n546] H K = R14_Block_sign_b R14_Block_get k p544 n545 n546 H (fun n1337 H => K (.int .i64 n1337) H) := by kernel_rfl
theorem R14_Block_sign_cs (R : Type) (k : Nat) : ∀ args H K r, R14_Block_sign_c R k args H K = some r → ∃ v H', Tri Try.prog 63 args H v H' ∧ K v H' = some r := by
  intro args H K r h
  unfold R14_Block_sign_c R14_Block_sign_ca at h
  split at h
  · exact evF_ok (C := R14_Block_sign_C R 0) (an := An) (t := R14_Block_sign_at) (fn := Try.f63) (c := (Try.f63.body.getD .skip)) (ifn := R14_Block_sign_f) (R14_Block_sign_S R 0) (R14_Block_sign_J R 0) Try.func63 (by kernel_rfl) (by kernel_rfl) (And.intro True.intro (And.intro True.intro (And.intro (And.intro True.intro (And.intro (And.intro True.intro True.intro) True.intro)) (And.intro (And.intro True.intro (And.intro (And.intro True.intro True.intro) True.intro)) (And.intro True.intro True.intro))))) rfl (Eq.trans (R14_Block_sign_e R14_Block_get 0 _ _ _ H K) h)
  · cases h
/-! ### R13_limit: function 68 -/
def R13_limit_b {R : Type} (k : Nat) (n595 : Int) (n596 : Int) (n597 : Int) (K : Int → Option R) : Option R :=
K (imn (imx n595 n596) n597)

def R13_limit {R : Type} (n595 : Int) (n596 : Int) (n597 : Int) (K : Int → Option R) : Option R := R13_limit_b 0 n595 n596 n597 K

def R13_limit_Ct {R : Type} : Tab R := fun _ _ _ _ => none
def R13_limit_C (R : Type) (k : Nat) : Tab R := R13_limit_Ct
theorem R13_limit_S (R : Type) (k : Nat) : CSound Try.prog (R13_limit_C R k) := csound_nil
def R13_limit_Jt {R : Type} (k : Nat) : JTab R := fun _ _ _ _ => none
def R13_limit_J (R : Type) (k : Nat) : JTab R := R13_limit_Jt k
def R13_limit_at : AT := (.seq (.reg [0, 1, 2] []) (.seq (.reg [6] []) .leaf))
def R13_limit_f : IFn := ⟨12, [.t 6], (.seq (.reg [⟨some 6, .mov (.c (Go.Value.int Go.IntKind.i64 0)), none⟩] [0, 1, 2]) (.seq (.reg [⟨some 7, .mov (.t 0), none⟩,
 ⟨some 8, .mov (.t 1), none⟩,
 ⟨some 9, .mx (.t 7) (.t 8), none⟩,
 ⟨some 10, .mov (.t 2), none⟩,
 ⟨some 11, .mn (.t 9) (.t 10), none⟩,
 ⟨some 6, .mov (.t 11), none⟩] [6]) .ret))⟩
def R13_limit_ca {R : Type} (f : Int → Int → Int → (Int → Option R) → Option R) (args : List Value) (H : Heap) (K : Value → Heap → Option R) : Option R :=
  match args with
  | [.int .i64 n595, .int .i64 n596, .int .i64 n597] => f n595 n596 n597 (fun n1338 => K (.int .i64 n1338) H)
  | _ => none
def R13_limit_c (R : Type) (k : Nat) (args : List Value) (H : Heap) (K : Value → Heap → Option R) : Option R := R13_limit_ca R13_limit args H K
theorem R13_limit_e {R : Type} (k : Nat) (n595 : Int) (n596 : Int) (n597 : Int) (H : Heap) (K : Value → Heap → Option R) : evF (R13_limit_Ct) (R13_limit_Jt k) R13_limit_f [.int .i64 n595, .int .i64 n596, .int .i64 n597] H K = R13_limit_b k n595 n596 n597 (fun n1338 => K (.int .i64 n1338) H) := by kernel_rfl
theorem R13_limit_cs (R : Type) (k : Nat) : ∀ args H K r, R13_limit_c R k args H K = some r → ∃ v H', Tri Try.prog 68 args H v H' ∧ K v H' = some r := by
  intro args H K r h
  unfold R13_limit_c R13_limit_ca at h
  split at h
  · exact evF_ok (C := R13_limit_C R 0) (an := An) (t := R13_limit_at) (fn := Try.f68) (c := (Try.f68.body.getD .skip)) (ifn := R13_limit_f) (R13_limit_S R 0) (R13_limit_J R 0) Try.func68 (by kernel_rfl) (by kernel_rfl) (And.intro True.intro (And.intro True.intro True.intro)) rfl (Eq.trans (R13_limit_e 0 _ _ _ H K) h)
  · cases h
end Go.Proofs.Ytblpaolcgkjcgaa.Sh
