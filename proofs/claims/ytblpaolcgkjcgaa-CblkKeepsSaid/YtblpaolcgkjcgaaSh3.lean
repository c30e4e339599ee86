/- Lean functions that stand for Go's, over an explicit heap, and the proofs that they do (written by this claim's program shallow.py). -/
import Derived.Test.YtblpaolcgkjcgaaSh0
set_option maxRecDepth 100000
set_option linter.unusedVariables false
set_option linter.unusedSimpArgs false
namespace Go.Proofs.Ytblpaolcgkjcgaa.Sh
open Go.Proofs.Ytblpaolcgkjcgaa.FW
/-! ### cblk_Block_Touch: function 51 -/
def cblk_Block_Touch_b {R : Type} (cblk_Block_at : Option Addr → Int → Int → Heap → (Option Addr → Option R) → Option R) (cblk_Block_missing : Option Addr → Heap → (Int → Option R) → Option R) (k : Nat) (p479 : Option Addr) (n480 : Int) (n481 : Int) (t482 : Bool) (H : Heap) (K : Int → Heap → Option R) : Option R :=
cblk_Block_at p479 n480 n481 H fun p483 =>
bif p483.isNone then (cblk_Block_missing p479 H fun n484 =>
K n484 H)
 else (hnil p483 fun p485 =>
hfad 2 p485 fun p486 =>
hst1 H p486 (.bool t482) fun H487 =>
K 0 H487)

def cblk_Block_Touch {R : Type} (k : Nat) (p479 : Option Addr) (n480 : Int) (n481 : Int) (t482 : Bool) (H : Heap) (K : Int → Heap → Option R) : Option R := cblk_Block_Touch_b (cblk_Block_at k) cblk_Block_missing k p479 n480 n481 t482 H K

def cblk_Block_Touch_Ct {R : Type} (cblk_Block_at : Option Addr → Int → Int → Heap → (Option Addr → Option R) → Option R) (cblk_Block_missing : Option Addr → Heap → (Int → Option R) → Option R) : Tab R := tcons 46 (cblk_Block_at_ca cblk_Block_at) <| tcons 47 (cblk_Block_missing_ca cblk_Block_missing) <| fun _ _ _ _ => none
def cblk_Block_Touch_C (R : Type) (k : Nat) : Tab R := cblk_Block_Touch_Ct (cblk_Block_at k) cblk_Block_missing
theorem cblk_Block_Touch_S (R : Type) (k : Nat) : CSound Try.prog (cblk_Block_Touch_C R k) := csound_cons (cblk_Block_at_cs R k) <| csound_cons (cblk_Block_missing_cs R k) <| csound_nil
def cblk_Block_Touch_Jt {R : Type} (k : Nat) : JTab R := fun _ _ _ _ => none
def cblk_Block_Touch_J (R : Type) (k : Nat) : JTab R := cblk_Block_Touch_Jt k
def cblk_Block_Touch_at : AT := (.seq (.reg [0, 1, 2, 3] []) (.seq (.reg [0, 3, 9] []) (.seq (.seq (.reg [0, 3, 9, 15] []) (.cond (.seq (.reg [8] []) .leaf) .leaf)) (.seq (.reg [] []) (.seq (.reg [8] []) .leaf)))))
def cblk_Block_Touch_f : IFn := ⟨22, [.t 8], (.seq (.reg [⟨some 8, .mov (.c (Go.Value.int Go.IntKind.i64 0)), none⟩] [0, 1, 2, 3]) (.seq (.reg [⟨some 10, .mov (.t 0), none⟩,
 ⟨some 11, .mov (.t 1), none⟩,
 ⟨some 12, .mov (.t 2), none⟩,
 ⟨some 13, .call 46 [(.t 10), (.t 11), (.t 12)] (.one (.sc .ptr)), none⟩,
 ⟨some 9, .mov (.t 13), none⟩] [0, 3, 9]) (.seq (.seq (.reg [⟨some 14, .mov (.t 9), none⟩,
 ⟨some 15, .eqnil (.t 14) false 0, none⟩] [0, 3, 9, 15]) (.cond (.t 15) (.seq (.reg [⟨some 16, .mov (.t 0), none⟩,
 ⟨some 17, .call 47 [(.t 16)] (.one (.sc (.int .i64))), none⟩,
 ⟨some 8, .mov (.t 17), none⟩] [8]) .ret) .skip)) (.seq (.reg [⟨some 18, .mov (.t 9), none⟩,
 ⟨some 19, .mov (.t 3), none⟩,
 ⟨some 20, .nilc (.t 18), none⟩,
 ⟨some 21, .fad 2 (.t 20), none⟩,
 ⟨none, .st 1 (.t 21) (.t 19), none⟩] []) (.seq (.reg [⟨some 8, .mov (.c (Go.Value.int Go.IntKind.i64 0)), none⟩] [8]) .ret)))))⟩
def cblk_Block_Touch_ca {R : Type} (f : Option Addr → Int → Int → Bool → Heap → (Int → Heap → Option R) → Option R) (args : List Value) (H : Heap) (K : Value → Heap → Option R) : Option R :=
  match args with
  | [.pointer p479, .int .i64 n480, .int .i64 n481, .bool t482] => f p479 n480 n481 t482 H (fun n1170 H => K (.int .i64 n1170) H)
  | _ => none
def cblk_Block_Touch_c (R : Type) (k : Nat) (args : List Value) (H : Heap) (K : Value → Heap → Option R) : Option R := cblk_Block_Touch_ca (cblk_Block_Touch k) args H K
theorem cblk_Block_Touch_e {R : Type} (cblk_Block_at : Option Addr → Int → Int → Heap → (Option Addr → Option R) → Option R) (cblk_Block_missing : Option Addr → Heap → (Int → Option R) → Option R) (k : Nat) (p479 : Option Addr) (n480 : Int) (n481 : Int) (t482 : Bool) (H : Heap) (K : Value → Heap → Option R) : evF (cblk_Block_Touch_Ct cblk_Block_at cblk_Block_missing) (cblk_Block_Touch_Jt k) cblk_Block_Touch_f [.pointer p479, .int .i64 n480, .int .i64 n481, .bool t482] H K = cblk_Block_Touch_b cblk_Block_at cblk_Block_missing k p479 n480 n481 t482 H (fun n1170 H => K (.int .i64 n1170) H) := by kernel_rfl
theorem cblk_Block_Touch_cs (R : Type) (k : Nat) : ∀ args H K r, cblk_Block_Touch_c R k args H K = some r → ∃ v H', Tri Try.prog 51 args H v H' ∧ K v H' = some r := by
  intro args H K r h
  unfold cblk_Block_Touch_c cblk_Block_Touch_ca at h
  split at h
  · exact evF_ok (C := cblk_Block_Touch_C R k) (an := An) (t := cblk_Block_Touch_at) (fn := Try.f51) (c := (Try.f51.body.getD .skip)) (ifn := cblk_Block_Touch_f) (cblk_Block_Touch_S R k) (cblk_Block_Touch_J R k) Try.func51 (by kernel_rfl) (by kernel_rfl) (And.intro True.intro (And.intro True.intro (And.intro (And.intro True.intro (And.intro (And.intro True.intro True.intro) True.intro)) (And.intro True.intro (And.intro True.intro True.intro))))) rfl (Eq.trans (cblk_Block_Touch_e (cblk_Block_at k) cblk_Block_missing k _ _ _ _ H K) h)
  · cases h
/-! ### cblk_Block_Refine: function 52 -/
def cblk_Block_Refine_b {R : Type} (cblk_Block_at : Option Addr → Int → Int → Heap → (Option Addr → Option R) → Option R) (cblk_Block_missing : Option Addr → Heap → (Int → Option R) → Option R) (k : Nat) (p501 : Option Addr) (n502 : Int) (n503 : Int) (H : Heap) (K : Int → Heap → Option R) : Option R :=
cblk_Block_at p501 n502 n503 H fun p504 =>
bif p504.isNone then (cblk_Block_missing p501 H fun n505 =>
K n505 H)
 else (hnil p504 fun p506 =>
hfad 3 p506 fun p507 =>
hst1 H p507 (.bool true) fun H508 =>
K 0 H508)

def cblk_Block_Refine {R : Type} (k : Nat) (p501 : Option Addr) (n502 : Int) (n503 : Int) (H : Heap) (K : Int → Heap → Option R) : Option R := cblk_Block_Refine_b (cblk_Block_at k) cblk_Block_missing k p501 n502 n503 H K

def cblk_Block_Refine_Ct {R : Type} (cblk_Block_at : Option Addr → Int → Int → Heap → (Option Addr → Option R) → Option R) (cblk_Block_missing : Option Addr → Heap → (Int → Option R) → Option R) : Tab R := tcons 46 (cblk_Block_at_ca cblk_Block_at) <| tcons 47 (cblk_Block_missing_ca cblk_Block_missing) <| fun _ _ _ _ => none
def cblk_Block_Refine_C (R : Type) (k : Nat) : Tab R := cblk_Block_Refine_Ct (cblk_Block_at k) cblk_Block_missing
theorem cblk_Block_Refine_S (R : Type) (k : Nat) : CSound Try.prog (cblk_Block_Refine_C R k) := csound_cons (cblk_Block_at_cs R k) <| csound_cons (cblk_Block_missing_cs R k) <| csound_nil
def cblk_Block_Refine_Jt {R : Type} (k : Nat) : JTab R := fun _ _ _ _ => none
def cblk_Block_Refine_J (R : Type) (k : Nat) : JTab R := cblk_Block_Refine_Jt k
def cblk_Block_Refine_at : AT := (.seq (.reg [0, 1, 2] []) (.seq (.reg [0, 7] []) (.seq (.seq (.reg [0, 7, 13] []) (.cond (.seq (.reg [6] []) .leaf) .leaf)) (.seq (.reg [] []) (.seq (.reg [6] []) .leaf)))))
def cblk_Block_Refine_f : IFn := ⟨19, [.t 6], (.seq (.reg [⟨some 6, .mov (.c (Go.Value.int Go.IntKind.i64 0)), none⟩] [0, 1, 2]) (.seq (.reg [⟨some 8, .mov (.t 0), none⟩,
 ⟨some 9, .mov (.t 1), none⟩,
 ⟨some 10, .mov (.t 2), none⟩,
 ⟨some 11, .call 46 [(.t 8), (.t 9), (.t 10)] (.one (.sc .ptr)), none⟩,
 ⟨some 7, .mov (.t 11), none⟩] [0, 7]) (.seq (.seq (.reg [⟨some 12, .mov (.t 7), none⟩,
 ⟨some 13, .eqnil (.t 12) false 0, none⟩] [0, 7, 13]) (.cond (.t 13) (.seq (.reg [⟨some 14, .mov (.t 0), none⟩,
 ⟨some 15, .call 47 [(.t 14)] (.one (.sc (.int .i64))), none⟩,
 ⟨some 6, .mov (.t 15), none⟩] [6]) .ret) .skip)) (.seq (.reg [⟨some 16, .mov (.t 7), none⟩,
 ⟨some 17, .nilc (.t 16), none⟩,
 ⟨some 18, .fad 3 (.t 17), none⟩,
 ⟨none, .st 1 (.t 18) (.c (Go.Value.bool true)), none⟩] []) (.seq (.reg [⟨some 6, .mov (.c (Go.Value.int Go.IntKind.i64 0)), none⟩] [6]) .ret)))))⟩
def cblk_Block_Refine_ca {R : Type} (f : Option Addr → Int → Int → Heap → (Int → Heap → Option R) → Option R) (args : List Value) (H : Heap) (K : Value → Heap → Option R) : Option R :=
  match args with
  | [.pointer p501, .int .i64 n502, .int .i64 n503] => f p501 n502 n503 H (fun n1171 H => K (.int .i64 n1171) H)
  | _ => none
def cblk_Block_Refine_c (R : Type) (k : Nat) (args : List Value) (H : Heap) (K : Value → Heap → Option R) : Option R := cblk_Block_Refine_ca (cblk_Block_Refine k) args H K
theorem cblk_Block_Refine_e {R : Type} (cblk_Block_at : Option Addr → Int → Int → Heap → (Option Addr → Option R) → Option R) (cblk_Block_missing : Option Addr → Heap → (Int → Option R) → Option R) (k : Nat) (p501 : Option Addr) (n502 : Int) (n503 : Int) (H : Heap) (K : Value → Heap → Option R) : evF (cblk_Block_Refine_Ct cblk_Block_at cblk_Block_missing) (cblk_Block_Refine_Jt k) cblk_Block_Refine_f [.pointer p501, .int .i64 n502, .int .i64 n503] H K = cblk_Block_Refine_b cblk_Block_at cblk_Block_missing k p501 n502 n503 H (fun n1171 H => K (.int .i64 n1171) H) := by kernel_rfl
theorem cblk_Block_Refine_cs (R : Type) (k : Nat) : ∀ args H K r, cblk_Block_Refine_c R k args H K = some r → ∃ v H', Tri Try.prog 52 args H v H' ∧ K v H' = some r := by
  intro args H K r h
  unfold cblk_Block_Refine_c cblk_Block_Refine_ca at h
  split at h
  · exact evF_ok (C := cblk_Block_Refine_C R k) (an := An) (t := cblk_Block_Refine_at) (fn := Try.f52) (c := (Try.f52.body.getD .skip)) (ifn := cblk_Block_Refine_f) (cblk_Block_Refine_S R k) (cblk_Block_Refine_J R k) Try.func52 (by kernel_rfl) (by kernel_rfl) (And.intro True.intro (And.intro True.intro (And.intro (And.intro True.intro (And.intro (And.intro True.intro True.intro) True.intro)) (And.intro True.intro (And.intro True.intro True.intro))))) rfl (Eq.trans (cblk_Block_Refine_e (cblk_Block_at k) cblk_Block_missing k _ _ _ H K) h)
  · cases h
/-! ### L_do: function 32 -/
def L_do_b {R : Type} (cblk_Block_Set : Option Addr → Int → Int → Int → Heap → (Int → Heap → Option R) → Option R) (cblk_Block_Mark : Option Addr → Int → Int → Heap → (Int → Heap → Option R) → Option R) (cblk_Block_Touch : Option Addr → Int → Int → Bool → Heap → (Int → Heap → Option R) → Option R) (cblk_Block_Refine : Option Addr → Int → Int → Heap → (Int → Heap → Option R) → Option R) (k : Nat) (p452 : Option Addr) (n453 : Int) (n454 : Int) (n455 : Int) (n456 : Int) (H : Heap) (K : Int → Heap → Option R) : Option R :=
hal H [.int .i64 n453, .int .i64 n454, .int .i64 n455, .int .i64 n456] fun p457 H458 =>
hfad 0 p457 fun p459 =>
ldI .i64 H458 p459 fun n460 =>
bif (n460 == 0) then (hfad 1 p457 fun p461 =>
ldI .i64 H458 p461 fun n462 =>
hfad 2 p457 fun p463 =>
ldI .i64 H458 p463 fun n464 =>
hfad 3 p457 fun p465 =>
ldI .i64 H458 p465 fun n466 =>
cblk_Block_Set p452 n462 n464 n466 H458 fun n467 H468 =>
K n467 H468)
 else (bif (n460 == 1) then (hfad 1 p457 fun p469 =>
ldI .i64 H458 p469 fun n470 =>
hfad 2 p457 fun p471 =>
ldI .i64 H458 p471 fun n472 =>
cblk_Block_Mark p452 n470 n472 H458 fun n473 H474 =>
K n473 H474)
 else (bif (n460 == 2) then (hfad 1 p457 fun p475 =>
ldI .i64 H458 p475 fun n476 =>
hfad 2 p457 fun p477 =>
ldI .i64 H458 p477 fun n478 =>
cblk_Block_Touch p452 n476 n478 true H458 fun n479 H480 =>
K n479 H480)
 else (bif (n460 == 3) then (hfad 1 p457 fun p481 =>
ldI .i64 H458 p481 fun n482 =>
hfad 2 p457 fun p483 =>
ldI .i64 H458 p483 fun n484 =>
cblk_Block_Touch p452 n482 n484 false H458 fun n485 H486 =>
K n485 H486)
 else (hfad 1 p457 fun p487 =>
ldI .i64 H458 p487 fun n488 =>
hfad 2 p457 fun p489 =>
ldI .i64 H458 p489 fun n490 =>
cblk_Block_Refine p452 n488 n490 H458 fun n491 H492 =>
K n491 H492))))

def L_do {R : Type} (k : Nat) (p452 : Option Addr) (n453 : Int) (n454 : Int) (n455 : Int) (n456 : Int) (H : Heap) (K : Int → Heap → Option R) : Option R := L_do_b (cblk_Block_Set k) (cblk_Block_Mark k) (cblk_Block_Touch k) (cblk_Block_Refine k) k p452 n453 n454 n455 n456 H K

def L_do_Ct {R : Type} (cblk_Block_Set : Option Addr → Int → Int → Int → Heap → (Int → Heap → Option R) → Option R) (cblk_Block_Mark : Option Addr → Int → Int → Heap → (Int → Heap → Option R) → Option R) (cblk_Block_Touch : Option Addr → Int → Int → Bool → Heap → (Int → Heap → Option R) → Option R) (cblk_Block_Refine : Option Addr → Int → Int → Heap → (Int → Heap → Option R) → Option R) : Tab R := tcons 42 (cblk_Block_Set_ca cblk_Block_Set) <| tcons 27 (cblk_Block_Mark_ca cblk_Block_Mark) <| tcons 51 (cblk_Block_Touch_ca cblk_Block_Touch) <| tcons 52 (cblk_Block_Refine_ca cblk_Block_Refine) <| fun _ _ _ _ => none
def L_do_C (R : Type) (k : Nat) : Tab R := L_do_Ct (cblk_Block_Set k) (cblk_Block_Mark k) (cblk_Block_Touch k) (cblk_Block_Refine k)
theorem L_do_S (R : Type) (k : Nat) : CSound Try.prog (L_do_C R k) := csound_cons (cblk_Block_Set_cs R k) <| csound_cons (cblk_Block_Mark_cs R k) <| csound_cons (cblk_Block_Touch_cs R k) <| csound_cons (cblk_Block_Refine_cs R k) <| csound_nil
def L_do_Jt {R : Type} (k : Nat) : JTab R := fun _ _ _ _ => none
def L_do_J (R : Type) (k : Nat) : JTab R := L_do_Jt k
def L_do_at : AT := (.seq (.reg [0, 3] []) (.seq (.seq (.reg [0, 3, 6] []) (.node (.seq (.reg [0, 3, 6, 7] []) (.cond (.seq (.reg [4] []) .leaf) (.seq (.reg [0, 3, 6, 17] []) (.cond (.seq (.reg [4] []) .leaf) (.seq (.reg [0, 3, 6, 25] []) (.cond (.seq (.reg [4] []) .leaf) (.seq (.reg [0, 3, 33] []) (.cond (.seq (.reg [4] []) .leaf) .leaf)))))))))) (.seq (.reg [4] []) .leaf)))
def L_do_f : IFn := ⟨47, [.t 4], (.seq (.reg [⟨some 3, .box (.t 1), none⟩,
 ⟨some 4, .mov (.c (Go.Value.int Go.IntKind.i64 0)), none⟩] [0, 3]) (.seq (.seq (.reg [⟨some 5, .fad 0 (.t 3), none⟩,
 ⟨some 6, .ld (.sc (.int .i64)) (.t 5), none⟩] [0, 3, 6]) (.block 0 (.seq (.reg [⟨some 8, .cmp .eql (.t 6) (.c (Go.Value.int Go.IntKind.i64 0)), none⟩,
 ⟨some 7, .mov (.t 8), none⟩] [0, 3, 6, 7]) (.cond (.t 7) (.seq (.reg [⟨some 9, .mov (.t 0), none⟩,
 ⟨some 10, .fad 1 (.t 3), none⟩,
 ⟨some 11, .ld (.sc (.int .i64)) (.t 10), none⟩,
 ⟨some 12, .fad 2 (.t 3), none⟩,
 ⟨some 13, .ld (.sc (.int .i64)) (.t 12), none⟩,
 ⟨some 14, .fad 3 (.t 3), none⟩,
 ⟨some 15, .ld (.sc (.int .i64)) (.t 14), none⟩,
 ⟨some 16, .call 42 [(.t 9), (.t 11), (.t 13), (.t 15)] (.one (.sc (.int .i64))), none⟩,
 ⟨some 4, .mov (.t 16), none⟩] [4]) .ret) (.seq (.reg [⟨some 18, .cmp .eql (.t 6) (.c (Go.Value.int Go.IntKind.i64 1)), none⟩,
 ⟨some 17, .mov (.t 18), none⟩] [0, 3, 6, 17]) (.cond (.t 17) (.seq (.reg [⟨some 19, .mov (.t 0), none⟩,
 ⟨some 20, .fad 1 (.t 3), none⟩,
 ⟨some 21, .ld (.sc (.int .i64)) (.t 20), none⟩,
 ⟨some 22, .fad 2 (.t 3), none⟩,
 ⟨some 23, .ld (.sc (.int .i64)) (.t 22), none⟩,
 ⟨some 24, .call 27 [(.t 19), (.t 21), (.t 23)] (.one (.sc (.int .i64))), none⟩,
 ⟨some 4, .mov (.t 24), none⟩] [4]) .ret) (.seq (.reg [⟨some 26, .cmp .eql (.t 6) (.c (Go.Value.int Go.IntKind.i64 2)), none⟩,
 ⟨some 25, .mov (.t 26), none⟩] [0, 3, 6, 25]) (.cond (.t 25) (.seq (.reg [⟨some 27, .mov (.t 0), none⟩,
 ⟨some 28, .fad 1 (.t 3), none⟩,
 ⟨some 29, .ld (.sc (.int .i64)) (.t 28), none⟩,
 ⟨some 30, .fad 2 (.t 3), none⟩,
 ⟨some 31, .ld (.sc (.int .i64)) (.t 30), none⟩,
 ⟨some 32, .call 51 [(.t 27), (.t 29), (.t 31), (.c (Go.Value.bool true))] (.one (.sc (.int .i64))), none⟩,
 ⟨some 4, .mov (.t 32), none⟩] [4]) .ret) (.seq (.reg [⟨some 34, .cmp .eql (.t 6) (.c (Go.Value.int Go.IntKind.i64 3)), none⟩,
 ⟨some 33, .mov (.t 34), none⟩] [0, 3, 33]) (.cond (.t 33) (.seq (.reg [⟨some 35, .mov (.t 0), none⟩,
 ⟨some 36, .fad 1 (.t 3), none⟩,
 ⟨some 37, .ld (.sc (.int .i64)) (.t 36), none⟩,
 ⟨some 38, .fad 2 (.t 3), none⟩,
 ⟨some 39, .ld (.sc (.int .i64)) (.t 38), none⟩,
 ⟨some 40, .call 51 [(.t 35), (.t 37), (.t 39), (.c (Go.Value.bool false))] (.one (.sc (.int .i64))), none⟩,
 ⟨some 4, .mov (.t 40), none⟩] [4]) .ret) .skip)))))))))) (.seq (.reg [⟨some 41, .mov (.t 0), none⟩,
 ⟨some 42, .fad 1 (.t 3), none⟩,
 ⟨some 43, .ld (.sc (.int .i64)) (.t 42), none⟩,
 ⟨some 44, .fad 2 (.t 3), none⟩,
 ⟨some 45, .ld (.sc (.int .i64)) (.t 44), none⟩,
 ⟨some 46, .call 52 [(.t 41), (.t 43), (.t 45)] (.one (.sc (.int .i64))), none⟩,
 ⟨some 4, .mov (.t 46), none⟩] [4]) .ret)))⟩
def L_do_ca {R : Type} (f : Option Addr → Int → Int → Int → Int → Heap → (Int → Heap → Option R) → Option R) (args : List Value) (H : Heap) (K : Value → Heap → Option R) : Option R :=
  match args with
  | [.pointer p452, .agg ⟨[.int .i64 n453, .int .i64 n454, .int .i64 n455, .int .i64 n456]⟩] => f p452 n453 n454 n455 n456 H (fun n1172 H => K (.int .i64 n1172) H)
  | _ => none
def L_do_c (R : Type) (k : Nat) (args : List Value) (H : Heap) (K : Value → Heap → Option R) : Option R := L_do_ca (L_do k) args H K
theorem L_do_e {R : Type} (cblk_Block_Set : Option Addr → Int → Int → Int → Heap → (Int → Heap → Option R) → Option R) (cblk_Block_Mark : Option Addr → Int → Int → Heap → (Int → Heap → Option R) → Option R) (cblk_Block_Touch : Option Addr → Int → Int → Bool → Heap → (Int → Heap → Option R) → Option R) (cblk_Block_Refine : Option Addr → Int → Int → Heap → (Int → Heap → Option R) → Option R) (k : Nat) (p452 : Option Addr) (n453 : Int) (n454 : Int) (n455 : Int) (n456 : Int) (H : Heap) (K : Value → Heap → Option R) : evF (L_do_Ct cblk_Block_Set cblk_Block_Mark cblk_Block_Touch cblk_Block_Refine) (L_do_Jt k) L_do_f [.pointer p452, .agg ⟨[.int .i64 n453, .int .i64 n454, .int .i64 n455, .int .i64 n456]⟩] H K = L_do_b cblk_Block_Set cblk_Block_Mark cblk_Block_Touch cblk_Block_Refine k p452 n453 n454 n455 n456 H (fun n1172 H => K (.int .i64 n1172) H) := by kernel_rfl
theorem L_do_cs (R : Type) (k : Nat) : ∀ args H K r, L_do_c R k args H K = some r → ∃ v H', Tri Try.prog 32 args H v H' ∧ K v H' = some r := by
  intro args H K r h
  unfold L_do_c L_do_ca at h
  split at h
  · exact evF_ok (C := L_do_C R k) (an := An) (t := L_do_at) (fn := Try.f32) (c := (Try.f32.body.getD .skip)) (ifn := L_do_f) (L_do_S R k) (L_do_J R k) Try.func32 (by kernel_rfl) (by kernel_rfl) (And.intro True.intro (And.intro (And.intro True.intro (And.intro True.intro (And.intro (And.intro True.intro True.intro) (And.intro True.intro (And.intro (And.intro True.intro True.intro) (And.intro True.intro (And.intro (And.intro True.intro True.intro) (And.intro True.intro (And.intro (And.intro True.intro True.intro) True.intro))))))))) (And.intro True.intro True.intro))) rfl (Eq.trans (L_do_e (cblk_Block_Set k) (cblk_Block_Mark k) (cblk_Block_Touch k) (cblk_Block_Refine k) k _ _ _ _ _ H K) h)
  · cases h
end Go.Proofs.Ytblpaolcgkjcgaa.Sh
