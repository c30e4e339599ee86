/- Lean functions that stand for Go's, over an explicit heap, and the proofs that they do (written by this claim's program shallow.py). -/
import Derived.Test.YtiapgcgpdndkiaaSh0
import Derived.Test.YtiapgcgpdndkiaaSh1
import Derived.Test.YtiapgcgpdndkiaaSh2
import Derived.Test.YtiapgcgpdndkiaaSh6
import Derived.Test.YtiapgcgpdndkiaaSh8
set_option maxRecDepth 100000
set_option linter.unusedVariables false
set_option linter.unusedSimpArgs false
namespace Go.Proofs.Ytiapgcgpdndkiaa.Sh
open Go.Proofs.Ytiapgcgpdndkiaa.FW
/-! ### R09_Reader_back: function 53 -/
def R09_Reader_back_b {R : Type} (k : Nat) (p560 : Option Addr) (n561 : Int) (n562 : Int) (H : Heap) (K : Heap → Option R) : Option R :=
hnil p560 fun p563 =>
hfad 2 p563 fun p564 =>
hst1 H p564 (.int .i64 n561) fun H565 =>
hnil p560 fun p566 =>
hfad 3 p566 fun p567 =>
hst1 H565 p567 (.int .i64 n562) fun H568 =>
K H568

def R09_Reader_back {R : Type} (p560 : Option Addr) (n561 : Int) (n562 : Int) (H : Heap) (K : Heap → Option R) : Option R := R09_Reader_back_b 0 p560 n561 n562 H K

def R09_Reader_back_Ct {R : Type} : Tab R := fun _ _ _ _ => none
def R09_Reader_back_C (R : Type) (k : Nat) : Tab R := R09_Reader_back_Ct
theorem R09_Reader_back_S (R : Type) (k : Nat) : CSound Try.prog (R09_Reader_back_C R k) := csound_nil
def R09_Reader_back_Jt {R : Type} (k : Nat) : JTab R := fun _ _ _ _ => none
def R09_Reader_back_J (R : Type) (k : Nat) : JTab R := R09_Reader_back_Jt k
def R09_Reader_back_at : AT := (.seq (.reg [0, 2] []) (.reg [] []))
def R09_Reader_back_f : IFn := ⟨14, [], (.seq (.reg [⟨some 6, .mov (.t 0), none⟩,
 ⟨some 7, .mov (.t 1), none⟩,
 ⟨some 8, .nilc (.t 6), none⟩,
 ⟨some 9, .fad 2 (.t 8), none⟩,
 ⟨none, .st 1 (.t 9) (.t 7), none⟩] [0, 2]) (.reg [⟨some 10, .mov (.t 0), none⟩,
 ⟨some 11, .mov (.t 2), none⟩,
 ⟨some 12, .nilc (.t 10), none⟩,
 ⟨some 13, .fad 3 (.t 12), none⟩,
 ⟨none, .st 1 (.t 13) (.t 11), none⟩] []))⟩
def R09_Reader_back_ca {R : Type} (f : Option Addr → Int → Int → Heap → (Heap → Option R) → Option R) (args : List Value) (H : Heap) (K : Value → Heap → Option R) : Option R :=
  match args with
  | [.pointer p560, .int .i64 n561, .int .i64 n562] => f p560 n561 n562 H (fun H => K (undef) H)
  | _ => none
def R09_Reader_back_c (R : Type) (k : Nat) (args : List Value) (H : Heap) (K : Value → Heap → Option R) : Option R := R09_Reader_back_ca R09_Reader_back args H K
theorem R09_Reader_back_e {R : Type} (k : Nat) (p560 : Option Addr) (n561 : Int) (n562 : Int) (H : Heap) (K : Value → Heap → Option R) : evF (R09_Reader_back_Ct) (R09_Reader_back_Jt k) R09_Reader_back_f [.pointer p560, .int .i64 n561, .int .i64 n562] H K = R09_Reader_back_b k p560 n561 n562 H (fun H => K (undef) H) := by kernel_rfl
theorem R09_Reader_back_cs (R : Type) (k : Nat) : ∀ args H K r, R09_Reader_back_c R k args H K = some r → ∃ v H', Tri Try.prog 53 args H v H' ∧ K v H' = some r := by
  intro args H K r h
  unfold R09_Reader_back_c R09_Reader_back_ca at h
  split at h
  · exact evF_ok (C := R09_Reader_back_C R 0) (an := An) (t := R09_Reader_back_at) (fn := Try.f53) (c := (Try.f53.body.getD .skip)) (ifn := R09_Reader_back_f) (R09_Reader_back_S R 0) (R09_Reader_back_J R 0) Try.func53 (by kernel_rfl) (by kernel_rfl) (And.intro True.intro True.intro) rfl (Eq.trans (R09_Reader_back_e 0 _ _ _ H K) h)
  · cases h
/-! ### R09_Reader_Bits: function 43 -/
def R09_Reader_Bits_p0_b {R : Type} (k : Nat) (p526 : Option Addr) (n527 : Int) (H : Heap) (KN : Option Addr → Int → Option R) (KR : Int → Int → Option R) : Option R :=
bif p526.isNone then (KR 0 6)
 else (hnil p526 fun p528 =>
hfad 0 p528 fun p529 =>
ldB H p529 fun t530 =>
bif (!t530) then (KR 0 6)
 else (KN p526 n527))
def R09_Reader_Bits_p0 {R : Type} (k : Nat) (p526 : Option Addr) (n527 : Int) (H : Heap) (KN : Option Addr → Int → Option R) (KR : Int → Int → Option R) : Option R := R09_Reader_Bits_p0_b k p526 n527 H KN KR

def R09_Reader_Bits_p1_b {R : Type} (k : Nat) (p537 : Option Addr) (n538 : Int) (KN : Option Addr → Int → Option R) (KR : Int → Int → Option R) : Option R :=
bif decide (n538 < 0) then (KR 0 1)
 else (bif decide (n538 > 32) then (KR 0 1)
 else (KN p537 n538))
def R09_Reader_Bits_p1 {R : Type} (k : Nat) (p537 : Option Addr) (n538 : Int) (KN : Option Addr → Int → Option R) (KR : Int → Int → Option R) : Option R := R09_Reader_Bits_p1_b k p537 n538 KN KR

def R09_Reader_Bits_l2_b {R : Type} (R09_Reader_Get : Option Addr → Heap → (Int → Int → Heap → Option R) → Option R) (R09_Reader_back : Option Addr → Int → Int → Heap → (Heap → Option R) → Option R) (rec : Option Addr → Int → Int → Int → Int → Int → Heap → Option R) (KE0 : Int → Heap → Option R) (KR : Int → Int → Heap → Option R) (k : Nat) (p551 : Option Addr) (n552 : Int) (n553 : Int) (n554 : Int) (n555 : Int) (n556 : Int) (H : Heap) : Option R :=
bif decide (n556 < n552) then (R09_Reader_Get p551 H fun n557 n558 H559 =>
bif (n558 != 0) then (R09_Reader_back p551 n553 n554 H559 fun H560 =>
KR 0 n558 H560)
 else (rec p551 n552 n553 n554 (IntKind.wrap .i64 ((IntKind.wrap .i64 (2 * n555)) + n557)) (IntKind.wrap .i64 (n556 + 1)) H559))
 else (KE0 n555 H)
def R09_Reader_Bits_l2 {R : Type} (k : Nat) (KE0 : Int → Heap → Option R) (KR : Int → Int → Heap → Option R) : Nat → Option Addr → Int → Int → Int → Int → Int → Heap → Option R
  | 0, _, _, _, _, _, _, _ => none
  | n + 1, p551, n552, n553, n554, n555, n556, H => R09_Reader_Bits_l2_b (R09_Reader_Get k) R09_Reader_back (R09_Reader_Bits_l2 k KE0 KR n) KE0 KR k p551 n552 n553 n554 n555 n556 H

def R09_Reader_Bits_b {R : Type} (R09_Reader_Bits_p0 : Option Addr → Int → Heap → (Option Addr → Int → Option R) → (Int → Int → Option R) → Option R) (R09_Reader_Bits_p1 : Option Addr → Int → (Option Addr → Int → Option R) → (Int → Int → Option R) → Option R) (R09_Reader_Bits_l2 : (Int → Heap → Option R) → (Int → Int → Heap → Option R) → Nat → Option Addr → Int → Int → Int → Int → Int → Heap → Option R) (k : Nat) (p524 : Option Addr) (n525 : Int) (H : Heap) (K : Int → Int → Heap → Option R) : Option R :=
R09_Reader_Bits_p0 p524 n525 H (fun p535 n536 =>
R09_Reader_Bits_p1 p535 n536 (fun p543 n544 =>
hnil p543 fun p545 =>
hfad 2 p545 fun p546 =>
ldI .i64 H p546 fun n547 =>
hnil p543 fun p548 =>
hfad 3 p548 fun p549 =>
ldI .i64 H p549 fun n550 =>
R09_Reader_Bits_l2 (fun n564 H565 =>
K n564 0 H565) (fun n566 n567 H568 =>
K n566 n567 H568) k p543 n544 n547 n550 0 0 H) (fun n569 n570 =>
K n569 n570 H)) (fun n571 n572 =>
K n571 n572 H)

def R09_Reader_Bits {R : Type} (k : Nat) (p524 : Option Addr) (n525 : Int) (H : Heap) (K : Int → Int → Heap → Option R) : Option R := R09_Reader_Bits_b (R09_Reader_Bits_p0 k) (R09_Reader_Bits_p1 k) (R09_Reader_Bits_l2 k) k p524 n525 H K

def R09_Reader_Bits_Ct {R : Type} (R09_Reader_Get : Option Addr → Heap → (Int → Int → Heap → Option R) → Option R) (R09_Reader_back : Option Addr → Int → Int → Heap → (Heap → Option R) → Option R) : Tab R := tcons 26 (R09_Reader_Get_ca R09_Reader_Get) <| tcons 53 (R09_Reader_back_ca R09_Reader_back) <| fun _ _ _ _ => none
def R09_Reader_Bits_C (R : Type) (k : Nat) : Tab R := R09_Reader_Bits_Ct (R09_Reader_Get k) R09_Reader_back
theorem R09_Reader_Bits_S (R : Type) (k : Nat) : CSound Try.prog (R09_Reader_Bits_C R k) := csound_cons (R09_Reader_Get_cs R k) <| csound_cons (R09_Reader_back_cs R k) <| csound_nil
def R09_Reader_Bits_aa0 {R : Type} (f : Option Addr → Int → Heap → (Option Addr → Int → Option R) → (Int → Int → Option R) → Option R) (n : Nat) (vals : List Value) (H : Heap) (K : Xit → Env → Heap → Option R) : Option R :=
  match vals with
  | [.pointer p526, .int .i64 n527] => f p526 n527 H (fun p1146 n1147 => K .normal [(0, .pointer p1146), (1, .int .i64 n1147)] H) (fun n1148 n1149 => K .ret [(4, .int .i64 n1148), (5, .int .i64 n1149)] H)
  | _ => none
def R09_Reader_Bits_a0 (R : Type) (k n : Nat) (vals : List Value) (H : Heap) (K : Xit → Env → Heap → Option R) : Option R := R09_Reader_Bits_aa0 (R09_Reader_Bits_p0 k) n vals H K
def R09_Reader_Bits_aa1 {R : Type} (f : Option Addr → Int → (Option Addr → Int → Option R) → (Int → Int → Option R) → Option R) (n : Nat) (vals : List Value) (H : Heap) (K : Xit → Env → Heap → Option R) : Option R :=
  match vals with
  | [.pointer p537, .int .i64 n538] => f p537 n538 (fun p1150 n1151 => K .normal [(0, .pointer p1150), (1, .int .i64 n1151)] H) (fun n1152 n1153 => K .ret [(4, .int .i64 n1152), (5, .int .i64 n1153)] H)
  | _ => none
def R09_Reader_Bits_a1 (R : Type) (k n : Nat) (vals : List Value) (H : Heap) (K : Xit → Env → Heap → Option R) : Option R := R09_Reader_Bits_aa1 (R09_Reader_Bits_p1 k) n vals H K
def R09_Reader_Bits_aa2 {R : Type} (f : (Int → Heap → Option R) → (Int → Int → Heap → Option R) → Nat → Option Addr → Int → Int → Int → Int → Int → Heap → Option R) (n : Nat) (vals : List Value) (H : Heap) (K : Xit → Env → Heap → Option R) : Option R :=
  match vals with
  | [.pointer p551, .int .i64 n552, .int .i64 n553, .int .i64 n554, .int .i64 n555, .int .i64 n556] => f (fun n1154 H => K (.exit 0) [(8, .int .i64 n1154)] H) (fun n1155 n1156 H => K .ret [(4, .int .i64 n1155), (5, .int .i64 n1156)] H) n p551 n552 n553 n554 n555 n556 H
  | _ => none
def R09_Reader_Bits_a2 (R : Type) (k n : Nat) (vals : List Value) (H : Heap) (K : Xit → Env → Heap → Option R) : Option R := R09_Reader_Bits_aa2 (R09_Reader_Bits_l2 k) n vals H K
def R09_Reader_Bits_Jt {R : Type} (k : Nat) (R09_Reader_Bits_p0 : Option Addr → Int → Heap → (Option Addr → Int → Option R) → (Int → Int → Option R) → Option R) (R09_Reader_Bits_p1 : Option Addr → Int → (Option Addr → Int → Option R) → (Int → Int → Option R) → Option R) (R09_Reader_Bits_l2 : (Int → Heap → Option R) → (Int → Int → Heap → Option R) → Nat → Option Addr → Int → Int → Int → Int → Int → Heap → Option R) : JTab R := tcons 0 (R09_Reader_Bits_aa0 R09_Reader_Bits_p0 k) <| tcons 1 (R09_Reader_Bits_aa1 R09_Reader_Bits_p1 k) <| tcons 2 (R09_Reader_Bits_aa2 R09_Reader_Bits_l2 k) <| fun _ _ _ _ => none
def R09_Reader_Bits_J (R : Type) (k : Nat) : JTab R := R09_Reader_Bits_Jt k (R09_Reader_Bits_p0 k) (R09_Reader_Bits_p1 k) (R09_Reader_Bits_l2 k)
def R09_Reader_Bits_at : AT := (.seq (.reg [0, 1] []) (.seq (.opq 0 [0, 1] ⟨[0, 1], [], [4, 5]⟩ (.seq (.reg [0, 1, 20] []) (.cond (.seq (.reg [4, 5] []) .leaf) .leaf))) (.seq (.opq 1 [0, 1] ⟨[0, 1], [], [4, 5]⟩ (.seq (.reg [0, 1, 26] []) (.cond (.seq (.reg [4, 5] []) .leaf) .leaf))) (.seq (.reg [0, 1, 6, 7] [[], [0], [0, 1], [0, 1, 2], [], [4], [4, 5], [4, 5, 6], [0, 1, 2, 3], [0, 1, 2, 3, 4, 5, 6, 7, 8]]) (.seq (.reg [0, 1, 6, 7, 8] []) (.seq (.seq (.reg [0, 1, 6, 7, 8, 9] []) (.node (.opq 2 [0, 1, 6, 7, 8, 9] ⟨[], [(0, [8])], [4, 5]⟩ (.node (.seq (.seq (.reg [0, 1, 6, 7, 8, 9, 37] []) (.cond .leaf .leaf)) (.seq (.node (.seq (.reg [0, 1, 6, 7, 8, 9, 10, 11] []) (.seq (.seq (.reg [0, 1, 6, 7, 8, 9, 10, 11, 46] []) (.cond (.seq (.reg [11] []) (.seq (.reg [4, 5] []) .leaf)) .leaf)) (.reg [0, 1, 6, 7, 8, 9] [])))) (.reg [0, 1, 6, 7, 8, 9] []))))))) (.seq (.reg [4, 5] []) .leaf)))))))
def R09_Reader_Bits_i2 : IC := (.seq (.seq (.reg [⟨some 35, .mov (.t 9), none⟩,
 ⟨some 36, .mov (.t 1), none⟩,
 ⟨some 37, .cmp .lss (.t 35) (.t 36), none⟩] [0, 1, 6, 7, 8, 9, 37]) (.cond (.t 37) .skip (.exit 0))) (.seq (.block 1 (.seq (.reg [⟨some 41, .mov (.t 0), none⟩,
 ⟨some 42, .call 26 [(.t 41)] (.tup [(.sc (.int .i64)), (.sc (.int .i64))]), none⟩,
 ⟨some 40, .mov (.t 42), none⟩,
 ⟨some 43, .ext 0 (.t 40), none⟩,
 ⟨some 44, .ext 1 (.t 40), none⟩,
 ⟨some 10, .mov (.t 43), none⟩,
 ⟨some 11, .mov (.t 44), none⟩] [0, 1, 6, 7, 8, 9, 10, 11]) (.seq (.seq (.reg [⟨some 45, .mov (.t 11), none⟩,
 ⟨some 46, .cmp .neq (.t 45) (.c (Go.Value.int Go.IntKind.i64 0)), none⟩] [0, 1, 6, 7, 8, 9, 10, 11, 46]) (.cond (.t 46) (.seq (.reg [⟨some 47, .mov (.t 0), none⟩,
 ⟨some 48, .mov (.t 6), none⟩,
 ⟨some 49, .mov (.t 7), none⟩,
 ⟨some 50, .call 53 [(.t 47), (.t 48), (.t 49)] .none, none⟩] [11]) (.seq (.reg [⟨some 51, .mov (.t 11), none⟩,
 ⟨some 4, .mov (.c (Go.Value.int Go.IntKind.i64 0)), none⟩,
 ⟨some 5, .mov (.t 51), none⟩] [4, 5]) .ret)) .skip)) (.reg [⟨some 52, .mov (.t 8), none⟩,
 ⟨some 53, .bin .mul .i64 (.c (Go.Value.int Go.IntKind.i64 2)) (.t 52), none⟩,
 ⟨some 54, .mov (.t 10), none⟩,
 ⟨some 55, .bin .add .i64 (.t 53) (.t 54), none⟩,
 ⟨some 8, .mov (.t 55), none⟩] [0, 1, 6, 7, 8, 9])))) (.reg [⟨some 38, .mov (.t 9), none⟩,
 ⟨some 39, .bin .add .i64 (.t 38) (.c (Go.Value.int Go.IntKind.i64 1)), none⟩,
 ⟨some 9, .mov (.t 39), none⟩] [0, 1, 6, 7, 8, 9])))
def R09_Reader_Bits_i1 : IC := (.seq (.reg [⟨some 21, .mov (.t 1), none⟩,
 ⟨some 22, .cmp .lss (.t 21) (.c (Go.Value.int Go.IntKind.i64 0)), none⟩,
 ⟨some 23, .mov (.t 22), none⟩,
 ⟨some 24, .mov (.t 1), some (23, false)⟩,
 ⟨some 25, .cmp .gtr (.t 24) (.c (Go.Value.int Go.IntKind.i64 32)), some (23, false)⟩,
 ⟨some 26, .pick (.t 23) (.c (Go.Value.bool true)) (.t 25), none⟩] [0, 1, 26]) (.cond (.t 26) (.seq (.reg [⟨some 4, .mov (.c (Go.Value.int Go.IntKind.i64 0)), none⟩,
 ⟨some 5, .mov (.c (Go.Value.int Go.IntKind.i64 1)), none⟩] [4, 5]) .ret) .skip))
def R09_Reader_Bits_i0 : IC := (.seq (.reg [⟨some 12, .mov (.t 0), none⟩,
 ⟨some 13, .eqnil (.t 12) false 0, none⟩,
 ⟨some 14, .mov (.t 13), none⟩,
 ⟨some 15, .mov (.t 0), some (14, false)⟩,
 ⟨some 16, .nilc (.t 15), some (14, false)⟩,
 ⟨some 17, .fad 0 (.t 16), some (14, false)⟩,
 ⟨some 18, .ld (.sc .bool) (.t 17), some (14, false)⟩,
 ⟨some 19, .lnot (.t 18), some (14, false)⟩,
 ⟨some 20, .pick (.t 14) (.c (Go.Value.bool true)) (.t 19), none⟩] [0, 1, 20]) (.cond (.t 20) (.seq (.reg [⟨some 4, .mov (.c (Go.Value.int Go.IntKind.i64 0)), none⟩,
 ⟨some 5, .mov (.c (Go.Value.int Go.IntKind.i64 6)), none⟩] [4, 5]) .ret) .skip))
def R09_Reader_Bits_f : IFn := ⟨57, [.t 4, .t 5], (.seq (.reg [⟨some 4, .mov (.c (Go.Value.int Go.IntKind.i64 0)), none⟩,
 ⟨some 5, .mov (.c (Go.Value.int Go.IntKind.i64 0)), none⟩] [0, 1]) (.seq (.opq 0 [0, 1] R09_Reader_Bits_i0) (.seq (.opq 1 [0, 1] R09_Reader_Bits_i1) (.seq (.reg [⟨some 27, .mov (.t 0), none⟩,
 ⟨some 28, .nilc (.t 27), none⟩,
 ⟨some 29, .fad 2 (.t 28), none⟩,
 ⟨some 30, .ld (.sc (.int .i64)) (.t 29), none⟩,
 ⟨some 31, .mov (.t 0), none⟩,
 ⟨some 32, .nilc (.t 31), none⟩,
 ⟨some 33, .fad 3 (.t 32), none⟩,
 ⟨some 34, .ld (.sc (.int .i64)) (.t 33), none⟩,
 ⟨some 6, .mov (.t 30), none⟩,
 ⟨some 7, .mov (.t 34), none⟩] [0, 1, 6, 7]) (.seq (.reg [⟨some 8, .mov (.c (Go.Value.int Go.IntKind.i64 0)), none⟩] [0, 1, 6, 7, 8]) (.seq (.seq (.reg [⟨some 9, .mov (.c (Go.Value.int Go.IntKind.i64 0)), none⟩] [0, 1, 6, 7, 8, 9]) (.block 0 (.opq 2 [0, 1, 6, 7, 8, 9] (.loop R09_Reader_Bits_i2)))) (.seq (.reg [⟨some 56, .mov (.t 8), none⟩,
 ⟨some 4, .mov (.t 56), none⟩,
 ⟨some 5, .mov (.c (Go.Value.int Go.IntKind.i64 0)), none⟩] [4, 5]) .ret)))))))⟩
theorem R09_Reader_Bits_e2 {R : Type} (R09_Reader_Get : Option Addr → Heap → (Int → Int → Heap → Option R) → Option R) (R09_Reader_back : Option Addr → Int → Int → Heap → (Heap → Option R) → Option R) (R09_Reader_Bits_p0 : Option Addr → Int → Heap → (Option Addr → Int → Option R) → (Int → Int → Option R) → Option R) (R09_Reader_Bits_p1 : Option Addr → Int → (Option Addr → Int → Option R) → (Int → Int → Option R) → Option R) (R09_Reader_Bits_l2 : (Int → Heap → Option R) → (Int → Int → Heap → Option R) → Nat → Option Addr → Int → Int → Int → Int → Int → Heap → Option R) (k n : Nat) (p551 : Option Addr) (n552 : Int) (n553 : Int) (n554 : Int) (n555 : Int) (n556 : Int) (H : Heap) (K : Xit → Env → Heap → Option R) : evJ (R09_Reader_Bits_Ct R09_Reader_Get R09_Reader_back) (R09_Reader_Bits_Jt k R09_Reader_Bits_p0 R09_Reader_Bits_p1 R09_Reader_Bits_l2) R09_Reader_Bits_i2 (List.zip [0, 1, 6, 7, 8, 9] [.pointer p551, .int .i64 n552, .int .i64 n553, .int .i64 n554, .int .i64 n555, .int .i64 n556]) H (fun x e' H' => match x with | .normal => R09_Reader_Bits_aa2 R09_Reader_Bits_l2 n ((clean e' [0, 1, 6, 7, 8, 9]).map (·.2)) H' K | x => K x (clean e' ((⟨[], [(0, [8])], [4, 5]⟩ : Out).of x)) H') = R09_Reader_Bits_l2_b R09_Reader_Get R09_Reader_back (R09_Reader_Bits_l2 (fun n1154 H => K (.exit 0) [(8, .int .i64 n1154)] H) (fun n1155 n1156 H => K .ret [(4, .int .i64 n1155), (5, .int .i64 n1156)] H) n) (fun n1154 H => K (.exit 0) [(8, .int .i64 n1154)] H) (fun n1155 n1156 H => K .ret [(4, .int .i64 n1155), (5, .int .i64 n1156)] H) k p551 n552 n553 n554 n555 n556 H := by kernel_rfl
theorem R09_Reader_Bits_j2 {R : Type} (k : Nat) : JS Try.prog 57 (R09_Reader_Bits_a2 R k k) [0, 1, 6, 7, 8, 9] ⟨[], [(0, [8])], [4, 5]⟩ (.loop (sel [1, 1, 1, 1, 1, 0, 1, 0, 0] (Try.f43.body.getD .skip))) :=
  loop_ok (nt := 57) (c := (sel [1, 1, 1, 1, 1, 0, 1, 0, 0] (Try.f43.body.getD .skip))) (C := R09_Reader_Bits_C R k) (an := An) (t := (.seq (.seq (.reg [0, 1, 6, 7, 8, 9, 37] []) (.cond .leaf .leaf)) (.seq (.node (.seq (.reg [0, 1, 6, 7, 8, 9, 10, 11] []) (.seq (.seq (.reg [0, 1, 6, 7, 8, 9, 10, 11, 46] []) (.cond (.seq (.reg [11] []) (.seq (.reg [4, 5] []) .leaf)) .leaf)) (.reg [0, 1, 6, 7, 8, 9] [])))) (.reg [0, 1, 6, 7, 8, 9] [])))) (ic := R09_Reader_Bits_i2) (R09_Reader_Bits_S R k) (R09_Reader_Bits_J R k) (by kernel_rfl) (And.intro (And.intro True.intro (And.intro True.intro True.intro)) (And.intro (And.intro True.intro (And.intro (And.intro True.intro (And.intro (And.intro True.intro (And.intro True.intro True.intro)) True.intro)) True.intro)) True.intro)) (R09_Reader_Bits_a2 R k) (fun vals H K => by unfold R09_Reader_Bits_a2 R09_Reader_Bits_aa2; split <;> rfl)
    (fun n vals H K r h => by
      unfold R09_Reader_Bits_a2 R09_Reader_Bits_aa2 at h
      split at h <;> first | (cases h; done) | exact Eq.trans (R09_Reader_Bits_e2 (R09_Reader_Get k) R09_Reader_back (R09_Reader_Bits_p0 k) (R09_Reader_Bits_p1 k) (R09_Reader_Bits_l2 k) k n _ _ _ _ _ _ H K) h) k
theorem R09_Reader_Bits_e1 {R : Type} (R09_Reader_Get : Option Addr → Heap → (Int → Int → Heap → Option R) → Option R) (R09_Reader_back : Option Addr → Int → Int → Heap → (Heap → Option R) → Option R) (R09_Reader_Bits_p0 : Option Addr → Int → Heap → (Option Addr → Int → Option R) → (Int → Int → Option R) → Option R) (R09_Reader_Bits_p1 : Option Addr → Int → (Option Addr → Int → Option R) → (Int → Int → Option R) → Option R) (R09_Reader_Bits_l2 : (Int → Heap → Option R) → (Int → Int → Heap → Option R) → Nat → Option Addr → Int → Int → Int → Int → Int → Heap → Option R) (k : Nat) (p537 : Option Addr) (n538 : Int) (H : Heap) (K : Xit → Env → Heap → Option R) : evJ (R09_Reader_Bits_Ct R09_Reader_Get R09_Reader_back) (R09_Reader_Bits_Jt k R09_Reader_Bits_p0 R09_Reader_Bits_p1 R09_Reader_Bits_l2) R09_Reader_Bits_i1 (List.zip [0, 1] [.pointer p537, .int .i64 n538]) H (fun x e' H' => K x (clean e' ((⟨[0, 1], [], [4, 5]⟩ : Out).of x)) H') = R09_Reader_Bits_p1_b k p537 n538 (fun p1150 n1151 => K .normal [(0, .pointer p1150), (1, .int .i64 n1151)] H) (fun n1152 n1153 => K .ret [(4, .int .i64 n1152), (5, .int .i64 n1153)] H) := by kernel_rfl
theorem R09_Reader_Bits_j1 {R : Type} (k : Nat) : JS Try.prog 57 (R09_Reader_Bits_a1 R k k) [0, 1] ⟨[0, 1], [], [4, 5]⟩ (sel [1, 1, 0] (Try.f43.body.getD .skip)) :=
  piece_ok (nt := 57) (c := (sel [1, 1, 0] (Try.f43.body.getD .skip))) (C := R09_Reader_Bits_C R k) (an := An) (t := (.seq (.reg [0, 1, 26] []) (.cond (.seq (.reg [4, 5] []) .leaf) .leaf))) (ic := R09_Reader_Bits_i1) (R09_Reader_Bits_S R k) (R09_Reader_Bits_J R k) (by kernel_rfl) (And.intro True.intro (And.intro (And.intro True.intro True.intro) True.intro)) (R09_Reader_Bits_a1 R k k)
    (fun vals H K r h => by
      unfold R09_Reader_Bits_a1 R09_Reader_Bits_aa1 at h
      split at h <;> first | (cases h; done) | exact Eq.trans (R09_Reader_Bits_e1 (R09_Reader_Get k) R09_Reader_back (R09_Reader_Bits_p0 k) (R09_Reader_Bits_p1 k) (R09_Reader_Bits_l2 k) k _ _ H K) h)
theorem R09_Reader_Bits_e0 {R : Type} (R09_Reader_Get : Option Addr → Heap → (Int → Int → Heap → Option R) → Option R) (R09_Reader_back : Option Addr → Int → Int → Heap → (Heap → Option R) → Option R) (R09_Reader_Bits_p0 : Option Addr → Int → Heap → (Option Addr → Int → Option R) → (Int → Int → Option R) → Option R) (R09_Reader_Bits_p1 : Option Addr → Int → (Option Addr → Int → Option R) → (Int → Int → Option R) → Option R) (R09_Reader_Bits_l2 : (Int → Heap → Option R) → (Int → Int → Heap → Option R) → Nat → Option Addr → Int → Int → Int → Int → Int → Heap → Option R) (k : Nat) (p526 : Option Addr) (n527 : Int) (H : Heap) (K : Xit → Env → Heap → Option R) : evJ (R09_Reader_Bits_Ct R09_Reader_Get R09_Reader_back) (R09_Reader_Bits_Jt k R09_Reader_Bits_p0 R09_Reader_Bits_p1 R09_Reader_Bits_l2) R09_Reader_Bits_i0 (List.zip [0, 1] [.pointer p526, .int .i64 n527]) H (fun x e' H' => K x (clean e' ((⟨[0, 1], [], [4, 5]⟩ : Out).of x)) H') = R09_Reader_Bits_p0_b k p526 n527 H (fun p1146 n1147 => K .normal [(0, .pointer p1146), (1, .int .i64 n1147)] H) (fun n1148 n1149 => K .ret [(4, .int .i64 n1148), (5, .int .i64 n1149)] H) := by kernel_rfl
theorem R09_Reader_Bits_j0 {R : Type} (k : Nat) : JS Try.prog 57 (R09_Reader_Bits_a0 R k k) [0, 1] ⟨[0, 1], [], [4, 5]⟩ (sel [1, 0] (Try.f43.body.getD .skip)) :=
  piece_ok (nt := 57) (c := (sel [1, 0] (Try.f43.body.getD .skip))) (C := R09_Reader_Bits_C R k) (an := An) (t := (.seq (.reg [0, 1, 20] []) (.cond (.seq (.reg [4, 5] []) .leaf) .leaf))) (ic := R09_Reader_Bits_i0) (R09_Reader_Bits_S R k) (R09_Reader_Bits_J R k) (by kernel_rfl) (And.intro True.intro (And.intro (And.intro True.intro True.intro) True.intro)) (R09_Reader_Bits_a0 R k k)
    (fun vals H K r h => by
      unfold R09_Reader_Bits_a0 R09_Reader_Bits_aa0 at h
      split at h <;> first | (cases h; done) | exact Eq.trans (R09_Reader_Bits_e0 (R09_Reader_Get k) R09_Reader_back (R09_Reader_Bits_p0 k) (R09_Reader_Bits_p1 k) (R09_Reader_Bits_l2 k) k _ _ H K) h)
def R09_Reader_Bits_ca {R : Type} (f : Option Addr → Int → Heap → (Int → Int → Heap → Option R) → Option R) (args : List Value) (H : Heap) (K : Value → Heap → Option R) : Option R :=
  match args with
  | [.pointer p524, .int .i64 n525] => f p524 n525 H (fun n1157 n1158 H => K (.tuple ⟨[.int .i64 n1157, .int .i64 n1158]⟩) H)
  | _ => none
def R09_Reader_Bits_c (R : Type) (k : Nat) (args : List Value) (H : Heap) (K : Value → Heap → Option R) : Option R := R09_Reader_Bits_ca (R09_Reader_Bits k) args H K
theorem R09_Reader_Bits_e {R : Type} (R09_Reader_Get : Option Addr → Heap → (Int → Int → Heap → Option R) → Option R) (R09_Reader_back : Option Addr → Int → Int → Heap → (Heap → Option R) → Option R) (R09_Reader_Bits_p0 : Option Addr → Int → Heap → (Option Addr → Int → Option R) → (Int → Int → Option R) → Option R) (R09_Reader_Bits_p1 : Option Addr → Int → (Option Addr → Int → Option R) → (Int → Int → Option R) → Option R) (R09_Reader_Bits_l2 : (Int → Heap → Option R) → (Int → Int → Heap → Option R) → Nat → Option Addr → Int → Int → Int → Int → Int → Heap → Option R) (k : Nat) (p524 : Option Addr) (n525 : Int) (H : Heap) (K : Value → Heap → Option R) : evF (R09_Reader_Bits_Ct R09_Reader_Get R09_Reader_back) (R09_Reader_Bits_Jt k R09_Reader_Bits_p0 R09_Reader_Bits_p1 R09_Reader_Bits_l2) R09_Reader_Bits_f [.pointer p524, .int .i64 n525] H K = R09_Reader_Bits_b R09_Reader_Bits_p0 R09_Reader_Bits_p1 R09_Reader_Bits_l2 k p524 n525 H (fun n1157 n1158 H => K (.tuple ⟨[.int .i64 n1157, .int .i64 n1158]⟩) H) := by kernel_rfl
theorem R09_Reader_Bits_cs (R : Type) (k : Nat) : ∀ args H K r, R09_Reader_Bits_c R k args H K = some r → ∃ v H', Tri Try.prog 43 args H v H' ∧ K v H' = some r := by
  intro args H K r h
  unfold R09_Reader_Bits_c R09_Reader_Bits_ca at h
  split at h
  · exact evF_ok (C := R09_Reader_Bits_C R k) (an := An) (t := R09_Reader_Bits_at) (fn := Try.f43) (c := (Try.f43.body.getD .skip)) (ifn := R09_Reader_Bits_f) (R09_Reader_Bits_S R k) (R09_Reader_Bits_J R k) Try.func43 (by kernel_rfl) (by kernel_rfl) (And.intro True.intro (And.intro (R09_Reader_Bits_j0 k) (And.intro (R09_Reader_Bits_j1 k) (And.intro True.intro (And.intro True.intro (And.intro (And.intro True.intro (R09_Reader_Bits_j2 k)) (And.intro True.intro True.intro))))))) rfl (Eq.trans (R09_Reader_Bits_e (R09_Reader_Get k) R09_Reader_back (R09_Reader_Bits_p0 k) (R09_Reader_Bits_p1 k) (R09_Reader_Bits_l2 k) k _ _ H K) h)
  · cases h
/-! ### R09_Reader_Gamma: function 44 -/
def R09_Reader_Gamma_p0_b {R : Type} (k : Nat) (p579 : Option Addr) (H : Heap) (KN : Option Addr → Option R) (KR : Int → Int → Option R) : Option R :=
bif p579.isNone then (KR 0 6)
 else (hnil p579 fun p580 =>
hfad 0 p580 fun p581 =>
ldB H p581 fun t582 =>
bif (!t582) then (KR 0 6)
 else (KN p579))
def R09_Reader_Gamma_p0 {R : Type} (k : Nat) (p579 : Option Addr) (H : Heap) (KN : Option Addr → Option R) (KR : Int → Int → Option R) : Option R := R09_Reader_Gamma_p0_b k p579 H KN KR

def R09_Reader_Gamma_p2_b {R : Type} (k : Nat) (p600 : Option Addr) (n601 : Int) (n602 : Int) (n603 : Int) (n604 : Int) (n605 : Int) (KN : Option Addr → Int → Int → Int → Int → Int → Option R) : Option R :=
bif (n605 == 0) then (bif (n604 == 0) then (bif (n603 == 31) then (KN p600 n601 n602 n603 n604 8)
 else (KN p600 n601 n602 n603 n604 n605))
 else (KN p600 n601 n602 n603 n604 n605))
 else (KN p600 n601 n602 n603 n604 n605)
def R09_Reader_Gamma_p2 {R : Type} (k : Nat) (p600 : Option Addr) (n601 : Int) (n602 : Int) (n603 : Int) (n604 : Int) (n605 : Int) (KN : Option Addr → Int → Int → Int → Int → Int → Option R) : Option R := R09_Reader_Gamma_p2_b k p600 n601 n602 n603 n604 n605 KN

def R09_Reader_Gamma_l1_b {R : Type} (R09_Reader_Get : Option Addr → Heap → (Int → Int → Heap → Option R) → Option R) (R09_Reader_Gamma_p2 : Option Addr → Int → Int → Int → Int → Int → (Option Addr → Int → Int → Int → Int → Int → Option R) → Option R) (R09_Reader_back : Option Addr → Int → Int → Heap → (Heap → Option R) → Option R) (rec : Option Addr → Int → Int → Int → Heap → Option R) (KE0 : Option Addr → Int → Int → Int → Heap → Option R) (KR : Int → Int → Heap → Option R) (k : Nat) (p593 : Option Addr) (n594 : Int) (n595 : Int) (n596 : Int) (H : Heap) : Option R :=
R09_Reader_Get p593 H fun n597 n598 H599 =>
R09_Reader_Gamma_p2 p593 n594 n595 n596 n597 n598 (fun p612 n613 n614 n615 n616 n617 =>
bif (n617 != 0) then (R09_Reader_back p612 n613 n614 H599 fun H618 =>
KR 0 n617 H618)
 else (bif (n616 == 1) then (KE0 p612 n613 n614 n615 H599)
 else (rec p612 n613 n614 (IntKind.wrap .i64 (n615 + 1)) H599)))
def R09_Reader_Gamma_l1 {R : Type} (k : Nat) (KE0 : Option Addr → Int → Int → Int → Heap → Option R) (KR : Int → Int → Heap → Option R) : Nat → Option Addr → Int → Int → Int → Heap → Option R
  | 0, _, _, _, _, _ => none
  | n + 1, p593, n594, n595, n596, H => R09_Reader_Gamma_l1_b (R09_Reader_Get k) (R09_Reader_Gamma_p2 k) R09_Reader_back (R09_Reader_Gamma_l1 k KE0 KR n) KE0 KR k p593 n594 n595 n596 H

def R09_Reader_Gamma_b {R : Type} (R09_Reader_Gamma_p0 : Option Addr → Heap → (Option Addr → Option R) → (Int → Int → Option R) → Option R) (R09_Reader_Gamma_l1 : (Option Addr → Int → Int → Int → Heap → Option R) → (Int → Int → Heap → Option R) → Nat → Option Addr → Int → Int → Int → Heap → Option R) (R09_Reader_Bits : Option Addr → Int → Heap → (Int → Int → Heap → Option R) → Option R) (R09_Reader_back : Option Addr → Int → Int → Heap → (Heap → Option R) → Option R) (k : Nat) (p578 : Option Addr) (H : Heap) (K : Int → Int → Heap → Option R) : Option R :=
R09_Reader_Gamma_p0 p578 H (fun p586 =>
hnil p586 fun p587 =>
hfad 2 p587 fun p588 =>
ldI .i64 H p588 fun n589 =>
hnil p586 fun p590 =>
hfad 3 p590 fun p591 =>
ldI .i64 H p591 fun n592 =>
R09_Reader_Gamma_l1 (fun p625 n626 n627 n628 H629 =>
R09_Reader_Bits p625 n628 H629 fun n630 n631 H632 =>
bif (n631 != 0) then (R09_Reader_back p625 n626 n627 H632 fun H633 =>
K 0 n631 H633)
 else (hbin .shl .i64 1 (IntKind.wrap .u64 n628) fun n634 =>
K (IntKind.wrap .i64 (n634 + n630)) 0 H632)) (fun n635 n636 H637 =>
K n635 n636 H637) k p586 n589 n592 0 H) (fun n638 n639 =>
K n638 n639 H)

def R09_Reader_Gamma {R : Type} (k : Nat) (p578 : Option Addr) (H : Heap) (K : Int → Int → Heap → Option R) : Option R := R09_Reader_Gamma_b (R09_Reader_Gamma_p0 k) (R09_Reader_Gamma_l1 k) (R09_Reader_Bits k) R09_Reader_back k p578 H K

def R09_Reader_Gamma_Ct {R : Type} (R09_Reader_Get : Option Addr → Heap → (Int → Int → Heap → Option R) → Option R) (R09_Reader_back : Option Addr → Int → Int → Heap → (Heap → Option R) → Option R) (R09_Reader_Bits : Option Addr → Int → Heap → (Int → Int → Heap → Option R) → Option R) : Tab R := tcons 26 (R09_Reader_Get_ca R09_Reader_Get) <| tcons 53 (R09_Reader_back_ca R09_Reader_back) <| tcons 43 (R09_Reader_Bits_ca R09_Reader_Bits) <| fun _ _ _ _ => none
def R09_Reader_Gamma_C (R : Type) (k : Nat) : Tab R := R09_Reader_Gamma_Ct (R09_Reader_Get k) R09_Reader_back (R09_Reader_Bits k)
theorem R09_Reader_Gamma_S (R : Type) (k : Nat) : CSound Try.prog (R09_Reader_Gamma_C R k) := csound_cons (R09_Reader_Get_cs R k) <| csound_cons (R09_Reader_back_cs R k) <| csound_cons (R09_Reader_Bits_cs R k) <| csound_nil
def R09_Reader_Gamma_aa0 {R : Type} (f : Option Addr → Heap → (Option Addr → Option R) → (Int → Int → Option R) → Option R) (n : Nat) (vals : List Value) (H : Heap) (K : Xit → Env → Heap → Option R) : Option R :=
  match vals with
  | [.pointer p579] => f p579 H (fun p1159 => K .normal [(0, .pointer p1159)] H) (fun n1160 n1161 => K .ret [(2, .int .i64 n1160), (3, .int .i64 n1161)] H)
  | _ => none
def R09_Reader_Gamma_a0 (R : Type) (k n : Nat) (vals : List Value) (H : Heap) (K : Xit → Env → Heap → Option R) : Option R := R09_Reader_Gamma_aa0 (R09_Reader_Gamma_p0 k) n vals H K
def R09_Reader_Gamma_aa1 {R : Type} (f : (Option Addr → Int → Int → Int → Heap → Option R) → (Int → Int → Heap → Option R) → Nat → Option Addr → Int → Int → Int → Heap → Option R) (n : Nat) (vals : List Value) (H : Heap) (K : Xit → Env → Heap → Option R) : Option R :=
  match vals with
  | [.pointer p593, .int .i64 n594, .int .i64 n595, .int .i64 n596] => f (fun p1162 n1163 n1164 n1165 H => K (.exit 0) [(0, .pointer p1162), (4, .int .i64 n1163), (5, .int .i64 n1164), (6, .int .i64 n1165)] H) (fun n1166 n1167 H => K .ret [(2, .int .i64 n1166), (3, .int .i64 n1167)] H) n p593 n594 n595 n596 H
  | _ => none
def R09_Reader_Gamma_a1 (R : Type) (k n : Nat) (vals : List Value) (H : Heap) (K : Xit → Env → Heap → Option R) : Option R := R09_Reader_Gamma_aa1 (R09_Reader_Gamma_l1 k) n vals H K
def R09_Reader_Gamma_aa2 {R : Type} (f : Option Addr → Int → Int → Int → Int → Int → (Option Addr → Int → Int → Int → Int → Int → Option R) → Option R) (n : Nat) (vals : List Value) (H : Heap) (K : Xit → Env → Heap → Option R) : Option R :=
  match vals with
  | [.pointer p600, .int .i64 n601, .int .i64 n602, .int .i64 n603, .int .i64 n604, .int .i64 n605] => f p600 n601 n602 n603 n604 n605 (fun p1168 n1169 n1170 n1171 n1172 n1173 => K .normal [(0, .pointer p1168), (4, .int .i64 n1169), (5, .int .i64 n1170), (6, .int .i64 n1171), (7, .int .i64 n1172), (8, .int .i64 n1173)] H)
  | _ => none
def R09_Reader_Gamma_a2 (R : Type) (k n : Nat) (vals : List Value) (H : Heap) (K : Xit → Env → Heap → Option R) : Option R := R09_Reader_Gamma_aa2 (R09_Reader_Gamma_p2 k) n vals H K
def R09_Reader_Gamma_Jt {R : Type} (k : Nat) (R09_Reader_Gamma_p0 : Option Addr → Heap → (Option Addr → Option R) → (Int → Int → Option R) → Option R) (R09_Reader_Gamma_l1 : (Option Addr → Int → Int → Int → Heap → Option R) → (Int → Int → Heap → Option R) → Nat → Option Addr → Int → Int → Int → Heap → Option R) (R09_Reader_Gamma_p2 : Option Addr → Int → Int → Int → Int → Int → (Option Addr → Int → Int → Int → Int → Int → Option R) → Option R) : JTab R := tcons 0 (R09_Reader_Gamma_aa0 R09_Reader_Gamma_p0 k) <| tcons 1 (R09_Reader_Gamma_aa1 R09_Reader_Gamma_l1 k) <| tcons 2 (R09_Reader_Gamma_aa2 R09_Reader_Gamma_p2 k) <| fun _ _ _ _ => none
def R09_Reader_Gamma_J (R : Type) (k : Nat) : JTab R := R09_Reader_Gamma_Jt k (R09_Reader_Gamma_p0 k) (R09_Reader_Gamma_l1 k) (R09_Reader_Gamma_p2 k)
def R09_Reader_Gamma_at : AT := (.seq (.reg [0] []) (.seq (.opq 0 [0] ⟨[0], [], [2, 3]⟩ (.seq (.reg [0, 19] []) (.cond (.seq (.reg [2, 3] []) .leaf) .leaf))) (.seq (.reg [0, 4, 5] [[], [0], [0, 1], [0, 1, 2], [], [4], [4, 5], [4, 5, 6], [0, 1, 2, 3], [0, 1, 2, 3, 4, 5, 6, 7, 8]]) (.seq (.reg [0, 4, 5, 6] []) (.seq (.node (.opq 1 [0, 4, 5, 6] ⟨[], [(0, [0, 4, 5, 6])], [2, 3]⟩ (.node (.node (.seq (.reg [0, 4, 5, 6, 7, 8] []) (.seq (.opq 2 [0, 4, 5, 6, 7, 8] ⟨[0, 4, 5, 6, 7, 8], [], []⟩ (.seq (.reg [0, 4, 5, 6, 7, 8, 42] []) (.cond (.reg [0, 4, 5, 6, 7, 8] []) .leaf))) (.seq (.seq (.reg [0, 4, 5, 6, 7, 8, 44] []) (.cond (.seq (.reg [8] []) (.seq (.reg [2, 3] []) .leaf)) .leaf)) (.seq (.seq (.reg [0, 4, 5, 6, 51] []) (.cond .leaf .leaf)) (.reg [0, 4, 5, 6] []))))))))) (.seq (.reg [0, 4, 5, 6, 9, 10] []) (.seq (.seq (.reg [0, 4, 5, 6, 9, 10, 61] []) (.cond (.seq (.reg [10] []) (.seq (.reg [2, 3] []) .leaf)) .leaf)) (.seq (.reg [2, 3] []) .leaf))))))))
def R09_Reader_Gamma_i2 : IC := (.seq (.reg [⟨some 33, .mov (.t 8), none⟩,
 ⟨some 34, .cmp .eql (.t 33) (.c (Go.Value.int Go.IntKind.i64 0)), none⟩,
 ⟨some 35, .mov (.t 34), none⟩,
 ⟨some 36, .mov (.t 7), some (35, true)⟩,
 ⟨some 37, .cmp .eql (.t 36) (.c (Go.Value.int Go.IntKind.i64 0)), some (35, true)⟩,
 ⟨some 38, .pick (.t 35) (.t 37) (.c (Go.Value.bool false)), none⟩,
 ⟨some 39, .mov (.t 38), none⟩,
 ⟨some 40, .mov (.t 6), some (39, true)⟩,
 ⟨some 41, .cmp .eql (.t 40) (.c (Go.Value.int Go.IntKind.i64 31)), some (39, true)⟩,
 ⟨some 42, .pick (.t 39) (.t 41) (.c (Go.Value.bool false)), none⟩] [0, 4, 5, 6, 7, 8, 42]) (.cond (.t 42) (.reg [⟨some 8, .mov (.c (Go.Value.int Go.IntKind.i64 8)), none⟩] [0, 4, 5, 6, 7, 8]) .skip))
def R09_Reader_Gamma_i1 : IC := (.block 1 (.seq (.reg [⟨some 29, .mov (.t 0), none⟩,
 ⟨some 30, .call 26 [(.t 29)] (.tup [(.sc (.int .i64)), (.sc (.int .i64))]), none⟩,
 ⟨some 28, .mov (.t 30), none⟩,
 ⟨some 31, .ext 0 (.t 28), none⟩,
 ⟨some 32, .ext 1 (.t 28), none⟩,
 ⟨some 7, .mov (.t 31), none⟩,
 ⟨some 8, .mov (.t 32), none⟩] [0, 4, 5, 6, 7, 8]) (.seq (.opq 2 [0, 4, 5, 6, 7, 8] R09_Reader_Gamma_i2) (.seq (.seq (.reg [⟨some 43, .mov (.t 8), none⟩,
 ⟨some 44, .cmp .neq (.t 43) (.c (Go.Value.int Go.IntKind.i64 0)), none⟩] [0, 4, 5, 6, 7, 8, 44]) (.cond (.t 44) (.seq (.reg [⟨some 45, .mov (.t 0), none⟩,
 ⟨some 46, .mov (.t 4), none⟩,
 ⟨some 47, .mov (.t 5), none⟩,
 ⟨some 48, .call 53 [(.t 45), (.t 46), (.t 47)] .none, none⟩] [8]) (.seq (.reg [⟨some 49, .mov (.t 8), none⟩,
 ⟨some 2, .mov (.c (Go.Value.int Go.IntKind.i64 0)), none⟩,
 ⟨some 3, .mov (.t 49), none⟩] [2, 3]) .ret)) .skip)) (.seq (.seq (.reg [⟨some 50, .mov (.t 7), none⟩,
 ⟨some 51, .cmp .eql (.t 50) (.c (Go.Value.int Go.IntKind.i64 1)), none⟩] [0, 4, 5, 6, 51]) (.cond (.t 51) (.exit 0) .skip)) (.reg [⟨some 52, .mov (.t 6), none⟩,
 ⟨some 53, .bin .add .i64 (.t 52) (.c (Go.Value.int Go.IntKind.i64 1)), none⟩,
 ⟨some 6, .mov (.t 53), none⟩] [0, 4, 5, 6]))))))
def R09_Reader_Gamma_i0 : IC := (.seq (.reg [⟨some 11, .mov (.t 0), none⟩,
 ⟨some 12, .eqnil (.t 11) false 0, none⟩,
 ⟨some 13, .mov (.t 12), none⟩,
 ⟨some 14, .mov (.t 0), some (13, false)⟩,
 ⟨some 15, .nilc (.t 14), some (13, false)⟩,
 ⟨some 16, .fad 0 (.t 15), some (13, false)⟩,
 ⟨some 17, .ld (.sc .bool) (.t 16), some (13, false)⟩,
 ⟨some 18, .lnot (.t 17), some (13, false)⟩,
 ⟨some 19, .pick (.t 13) (.c (Go.Value.bool true)) (.t 18), none⟩] [0, 19]) (.cond (.t 19) (.seq (.reg [⟨some 2, .mov (.c (Go.Value.int Go.IntKind.i64 0)), none⟩,
 ⟨some 3, .mov (.c (Go.Value.int Go.IntKind.i64 6)), none⟩] [2, 3]) .ret) .skip))
def R09_Reader_Gamma_f : IFn := ⟨72, [.t 2, .t 3], (.seq (.reg [⟨some 2, .mov (.c (Go.Value.int Go.IntKind.i64 0)), none⟩,
 ⟨some 3, .mov (.c (Go.Value.int Go.IntKind.i64 0)), none⟩] [0]) (.seq (.opq 0 [0] R09_Reader_Gamma_i0) (.seq (.reg [⟨some 20, .mov (.t 0), none⟩,
 ⟨some 21, .nilc (.t 20), none⟩,
 ⟨some 22, .fad 2 (.t 21), none⟩,
 ⟨some 23, .ld (.sc (.int .i64)) (.t 22), none⟩,
 ⟨some 24, .mov (.t 0), none⟩,
 ⟨some 25, .nilc (.t 24), none⟩,
 ⟨some 26, .fad 3 (.t 25), none⟩,
 ⟨some 27, .ld (.sc (.int .i64)) (.t 26), none⟩,
 ⟨some 4, .mov (.t 23), none⟩,
 ⟨some 5, .mov (.t 27), none⟩] [0, 4, 5]) (.seq (.reg [⟨some 6, .mov (.c (Go.Value.int Go.IntKind.i64 0)), none⟩] [0, 4, 5, 6]) (.seq (.block 0 (.opq 1 [0, 4, 5, 6] (.loop R09_Reader_Gamma_i1))) (.seq (.reg [⟨some 55, .mov (.t 0), none⟩,
 ⟨some 56, .mov (.t 6), none⟩,
 ⟨some 57, .call 43 [(.t 55), (.t 56)] (.tup [(.sc (.int .i64)), (.sc (.int .i64))]), none⟩,
 ⟨some 54, .mov (.t 57), none⟩,
 ⟨some 58, .ext 0 (.t 54), none⟩,
 ⟨some 59, .ext 1 (.t 54), none⟩,
 ⟨some 9, .mov (.t 58), none⟩,
 ⟨some 10, .mov (.t 59), none⟩] [0, 4, 5, 6, 9, 10]) (.seq (.seq (.reg [⟨some 60, .mov (.t 10), none⟩,
 ⟨some 61, .cmp .neq (.t 60) (.c (Go.Value.int Go.IntKind.i64 0)), none⟩] [0, 4, 5, 6, 9, 10, 61]) (.cond (.t 61) (.seq (.reg [⟨some 62, .mov (.t 0), none⟩,
 ⟨some 63, .mov (.t 4), none⟩,
 ⟨some 64, .mov (.t 5), none⟩,
 ⟨some 65, .call 53 [(.t 62), (.t 63), (.t 64)] .none, none⟩] [10]) (.seq (.reg [⟨some 66, .mov (.t 10), none⟩,
 ⟨some 2, .mov (.c (Go.Value.int Go.IntKind.i64 0)), none⟩,
 ⟨some 3, .mov (.t 66), none⟩] [2, 3]) .ret)) .skip)) (.seq (.reg [⟨some 67, .mov (.t 6), none⟩,
 ⟨some 68, .cnv .u64 (.t 67), none⟩,
 ⟨some 69, .bin .shl .i64 (.c (Go.Value.int Go.IntKind.i64 1)) (.t 68), none⟩,
 ⟨some 70, .mov (.t 9), none⟩,
 ⟨some 71, .bin .add .i64 (.t 69) (.t 70), none⟩,
 ⟨some 2, .mov (.t 71), none⟩,
 ⟨some 3, .mov (.c (Go.Value.int Go.IntKind.i64 0)), none⟩] [2, 3]) .ret))))))))⟩
theorem R09_Reader_Gamma_e2 {R : Type} (R09_Reader_Get : Option Addr → Heap → (Int → Int → Heap → Option R) → Option R) (R09_Reader_back : Option Addr → Int → Int → Heap → (Heap → Option R) → Option R) (R09_Reader_Bits : Option Addr → Int → Heap → (Int → Int → Heap → Option R) → Option R) (R09_Reader_Gamma_p0 : Option Addr → Heap → (Option Addr → Option R) → (Int → Int → Option R) → Option R) (R09_Reader_Gamma_l1 : (Option Addr → Int → Int → Int → Heap → Option R) → (Int → Int → Heap → Option R) → Nat → Option Addr → Int → Int → Int → Heap → Option R) (R09_Reader_Gamma_p2 : Option Addr → Int → Int → Int → Int → Int → (Option Addr → Int → Int → Int → Int → Int → Option R) → Option R) (k : Nat) (p600 : Option Addr) (n601 : Int) (n602 : Int) (n603 : Int) (n604 : Int) (n605 : Int) (H : Heap) (K : Xit → Env → Heap → Option R) : evJ (R09_Reader_Gamma_Ct R09_Reader_Get R09_Reader_back R09_Reader_Bits) (R09_Reader_Gamma_Jt k R09_Reader_Gamma_p0 R09_Reader_Gamma_l1 R09_Reader_Gamma_p2) R09_Reader_Gamma_i2 (List.zip [0, 4, 5, 6, 7, 8] [.pointer p600, .int .i64 n601, .int .i64 n602, .int .i64 n603, .int .i64 n604, .int .i64 n605]) H (fun x e' H' => K x (clean e' ((⟨[0, 4, 5, 6, 7, 8], [], []⟩ : Out).of x)) H') = R09_Reader_Gamma_p2_b k p600 n601 n602 n603 n604 n605 (fun p1168 n1169 n1170 n1171 n1172 n1173 => K .normal [(0, .pointer p1168), (4, .int .i64 n1169), (5, .int .i64 n1170), (6, .int .i64 n1171), (7, .int .i64 n1172), (8, .int .i64 n1173)] H) := by kernel_rfl
theorem R09_Reader_Gamma_j2 {R : Type} (k : Nat) : JS Try.prog 72 (R09_Reader_Gamma_a2 R k k) [0, 4, 5, 6, 7, 8] ⟨[0, 4, 5, 6, 7, 8], [], []⟩ (sel [1, 1, 1, 1, 0, 0, 0, 0, 1, 0] (Try.f44.body.getD .skip)) :=
  piece_ok (nt := 72) (c := (sel [1, 1, 1, 1, 0, 0, 0, 0, 1, 0] (Try.f44.body.getD .skip))) (C := R09_Reader_Gamma_C R k) (an := An) (t := (.seq (.reg [0, 4, 5, 6, 7, 8, 42] []) (.cond (.reg [0, 4, 5, 6, 7, 8] []) .leaf))) (ic := R09_Reader_Gamma_i2) (R09_Reader_Gamma_S R k) (R09_Reader_Gamma_J R k) (by kernel_rfl) (And.intro True.intro (And.intro True.intro True.intro)) (R09_Reader_Gamma_a2 R k k)
    (fun vals H K r h => by
      unfold R09_Reader_Gamma_a2 R09_Reader_Gamma_aa2 at h
      split at h <;> first | (cases h; done) | exact Eq.trans (R09_Reader_Gamma_e2 (R09_Reader_Get k) R09_Reader_back (R09_Reader_Bits k) (R09_Reader_Gamma_p0 k) (R09_Reader_Gamma_l1 k) (R09_Reader_Gamma_p2 k) k _ _ _ _ _ _ H K) h)
theorem R09_Reader_Gamma_e1 {R : Type} (R09_Reader_Get : Option Addr → Heap → (Int → Int → Heap → Option R) → Option R) (R09_Reader_back : Option Addr → Int → Int → Heap → (Heap → Option R) → Option R) (R09_Reader_Bits : Option Addr → Int → Heap → (Int → Int → Heap → Option R) → Option R) (R09_Reader_Gamma_p0 : Option Addr → Heap → (Option Addr → Option R) → (Int → Int → Option R) → Option R) (R09_Reader_Gamma_l1 : (Option Addr → Int → Int → Int → Heap → Option R) → (Int → Int → Heap → Option R) → Nat → Option Addr → Int → Int → Int → Heap → Option R) (R09_Reader_Gamma_p2 : Option Addr → Int → Int → Int → Int → Int → (Option Addr → Int → Int → Int → Int → Int → Option R) → Option R) (k n : Nat) (p593 : Option Addr) (n594 : Int) (n595 : Int) (n596 : Int) (H : Heap) (K : Xit → Env → Heap → Option R) : evJ (R09_Reader_Gamma_Ct R09_Reader_Get R09_Reader_back R09_Reader_Bits) (R09_Reader_Gamma_Jt k R09_Reader_Gamma_p0 R09_Reader_Gamma_l1 R09_Reader_Gamma_p2) R09_Reader_Gamma_i1 (List.zip [0, 4, 5, 6] [.pointer p593, .int .i64 n594, .int .i64 n595, .int .i64 n596]) H (fun x e' H' => match x with | .normal => R09_Reader_Gamma_aa1 R09_Reader_Gamma_l1 n ((clean e' [0, 4, 5, 6]).map (·.2)) H' K | x => K x (clean e' ((⟨[], [(0, [0, 4, 5, 6])], [2, 3]⟩ : Out).of x)) H') = R09_Reader_Gamma_l1_b R09_Reader_Get R09_Reader_Gamma_p2 R09_Reader_back (R09_Reader_Gamma_l1 (fun p1162 n1163 n1164 n1165 H => K (.exit 0) [(0, .pointer p1162), (4, .int .i64 n1163), (5, .int .i64 n1164), (6, .int .i64 n1165)] H) (fun n1166 n1167 H => K .ret [(2, .int .i64 n1166), (3, .int .i64 n1167)] H) n) (fun p1162 n1163 n1164 n1165 H => K (.exit 0) [(0, .pointer p1162), (4, .int .i64 n1163), (5, .int .i64 n1164), (6, .int .i64 n1165)] H) (fun n1166 n1167 H => K .ret [(2, .int .i64 n1166), (3, .int .i64 n1167)] H) k p593 n594 n595 n596 H := by kernel_rfl
theorem R09_Reader_Gamma_j1 {R : Type} (k : Nat) : JS Try.prog 72 (R09_Reader_Gamma_a1 R k k) [0, 4, 5, 6] ⟨[], [(0, [0, 4, 5, 6])], [2, 3]⟩ (.loop (sel [1, 1, 1, 1, 0, 0, 0] (Try.f44.body.getD .skip))) :=
  loop_ok (nt := 72) (c := (sel [1, 1, 1, 1, 0, 0, 0] (Try.f44.body.getD .skip))) (C := R09_Reader_Gamma_C R k) (an := An) (t := (.node (.seq (.reg [0, 4, 5, 6, 7, 8] []) (.seq (.opq 2 [0, 4, 5, 6, 7, 8] ⟨[0, 4, 5, 6, 7, 8], [], []⟩ (.seq (.reg [0, 4, 5, 6, 7, 8, 42] []) (.cond (.reg [0, 4, 5, 6, 7, 8] []) .leaf))) (.seq (.seq (.reg [0, 4, 5, 6, 7, 8, 44] []) (.cond (.seq (.reg [8] []) (.seq (.reg [2, 3] []) .leaf)) .leaf)) (.seq (.seq (.reg [0, 4, 5, 6, 51] []) (.cond .leaf .leaf)) (.reg [0, 4, 5, 6] []))))))) (ic := R09_Reader_Gamma_i1) (R09_Reader_Gamma_S R k) (R09_Reader_Gamma_J R k) (by kernel_rfl) (And.intro True.intro (And.intro (R09_Reader_Gamma_j2 k) (And.intro (And.intro True.intro (And.intro (And.intro True.intro (And.intro True.intro True.intro)) True.intro)) (And.intro (And.intro True.intro (And.intro True.intro True.intro)) True.intro)))) (R09_Reader_Gamma_a1 R k) (fun vals H K => by unfold R09_Reader_Gamma_a1 R09_Reader_Gamma_aa1; split <;> rfl)
    (fun n vals H K r h => by
      unfold R09_Reader_Gamma_a1 R09_Reader_Gamma_aa1 at h
      split at h <;> first | (cases h; done) | exact Eq.trans (R09_Reader_Gamma_e1 (R09_Reader_Get k) R09_Reader_back (R09_Reader_Bits k) (R09_Reader_Gamma_p0 k) (R09_Reader_Gamma_l1 k) (R09_Reader_Gamma_p2 k) k n _ _ _ _ H K) h) k
theorem R09_Reader_Gamma_e0 {R : Type} (R09_Reader_Get : Option Addr → Heap → (Int → Int → Heap → Option R) → Option R) (R09_Reader_back : Option Addr → Int → Int → Heap → (Heap → Option R) → Option R) (R09_Reader_Bits : Option Addr → Int → Heap → (Int → Int → Heap → Option R) → Option R) (R09_Reader_Gamma_p0 : Option Addr → Heap → (Option Addr → Option R) → (Int → Int → Option R) → Option R) (R09_Reader_Gamma_l1 : (Option Addr → Int → Int → Int → Heap → Option R) → (Int → Int → Heap → Option R) → Nat → Option Addr → Int → Int → Int → Heap → Option R) (R09_Reader_Gamma_p2 : Option Addr → Int → Int → Int → Int → Int → (Option Addr → Int → Int → Int → Int → Int → Option R) → Option R) (k : Nat) (p579 : Option Addr) (H : Heap) (K : Xit → Env → Heap → Option R) : evJ (R09_Reader_Gamma_Ct R09_Reader_Get R09_Reader_back R09_Reader_Bits) (R09_Reader_Gamma_Jt k R09_Reader_Gamma_p0 R09_Reader_Gamma_l1 R09_Reader_Gamma_p2) R09_Reader_Gamma_i0 (List.zip [0] [.pointer p579]) H (fun x e' H' => K x (clean e' ((⟨[0], [], [2, 3]⟩ : Out).of x)) H') = R09_Reader_Gamma_p0_b k p579 H (fun p1159 => K .normal [(0, .pointer p1159)] H) (fun n1160 n1161 => K .ret [(2, .int .i64 n1160), (3, .int .i64 n1161)] H) := by kernel_rfl
theorem R09_Reader_Gamma_j0 {R : Type} (k : Nat) : JS Try.prog 72 (R09_Reader_Gamma_a0 R k k) [0] ⟨[0], [], [2, 3]⟩ (sel [1, 0] (Try.f44.body.getD .skip)) :=
  piece_ok (nt := 72) (c := (sel [1, 0] (Try.f44.body.getD .skip))) (C := R09_Reader_Gamma_C R k) (an := An) (t := (.seq (.reg [0, 19] []) (.cond (.seq (.reg [2, 3] []) .leaf) .leaf))) (ic := R09_Reader_Gamma_i0) (R09_Reader_Gamma_S R k) (R09_Reader_Gamma_J R k) (by kernel_rfl) (And.intro True.intro (And.intro (And.intro True.intro True.intro) True.intro)) (R09_Reader_Gamma_a0 R k k)
    (fun vals H K r h => by
      unfold R09_Reader_Gamma_a0 R09_Reader_Gamma_aa0 at h
      split at h <;> first | (cases h; done) | exact Eq.trans (R09_Reader_Gamma_e0 (R09_Reader_Get k) R09_Reader_back (R09_Reader_Bits k) (R09_Reader_Gamma_p0 k) (R09_Reader_Gamma_l1 k) (R09_Reader_Gamma_p2 k) k _ H K) h)
def R09_Reader_Gamma_ca {R : Type} (f : Option Addr → Heap → (Int → Int → Heap → Option R) → Option R) (args : List Value) (H : Heap) (K : Value → Heap → Option R) : Option R :=
  match args with
  | [.pointer p578] => f p578 H (fun n1174 n1175 H => K (.tuple ⟨[.int .i64 n1174, .int .i64 n1175]⟩) H)
  | _ => none
def R09_Reader_Gamma_c (R : Type) (k : Nat) (args : List Value) (H : Heap) (K : Value → Heap → Option R) : Option R := R09_Reader_Gamma_ca (R09_Reader_Gamma k) args H K
theorem R09_Reader_Gamma_e {R : Type} (R09_Reader_Get : Option Addr → Heap → (Int → Int → Heap → Option R) → Option R) (R09_Reader_back : Option Addr → Int → Int → Heap → (Heap → Option R) → Option R) (R09_Reader_Bits : Option Addr → Int → Heap → (Int → Int → Heap → Option R) → Option R) (R09_Reader_Gamma_p0 : Option Addr → Heap → (Option Addr → Option R) → (Int → Int → Option R) → Option R) (R09_Reader_Gamma_l1 : (Option Addr → Int → Int → Int → Heap → Option R) → (Int → Int → Heap → Option R) → Nat → Option Addr → Int → Int → Int → Heap → Option R) (R09_Reader_Gamma_p2 : Option Addr → Int → Int → Int → Int → Int → (Option Addr → Int → Int → Int → Int → Int → Option R) → Option R) (k : Nat) (p578 : Option Addr) (H : Heap) (K : Value → Heap → Option R) : evF (R09_Reader_Gamma_Ct R09_Reader_Get R09_Reader_back R09_Reader_Bits) (R09_Reader_Gamma_Jt k R09_Reader_Gamma_p0 R09_Reader_Gamma_l1 R09_Reader_Gamma_p2) R09_Reader_Gamma_f [.pointer p578] H K = R09_Reader_Gamma_b R09_Reader_Gamma_p0 R09_Reader_Gamma_l1 R09_Reader_Bits R09_Reader_back k p578 H (fun n1174 n1175 H => K (.tuple ⟨[.int .i64 n1174, .int .i64 n1175]⟩) H) := by kernel_rfl
theorem R09_Reader_Gamma_cs (R : Type) (k : Nat) : ∀ args H K r, R09_Reader_Gamma_c R k args H K = some r → ∃ v H', Tri Try.prog 44 args H v H' ∧ K v H' = some r := by
  intro args H K r h
  unfold R09_Reader_Gamma_c R09_Reader_Gamma_ca at h
  split at h
  · exact evF_ok (C := R09_Reader_Gamma_C R k) (an := An) (t := R09_Reader_Gamma_at) (fn := Try.f44) (c := (Try.f44.body.getD .skip)) (ifn := R09_Reader_Gamma_f) (R09_Reader_Gamma_S R k) (R09_Reader_Gamma_J R k) Try.func44 (by kernel_rfl) (by kernel_rfl) (And.intro True.intro (And.intro (R09_Reader_Gamma_j0 k) (And.intro True.intro (And.intro True.intro (And.intro (R09_Reader_Gamma_j1 k) (And.intro True.intro (And.intro (And.intro True.intro (And.intro (And.intro True.intro (And.intro True.intro True.intro)) True.intro)) (And.intro True.intro True.intro)))))))) rfl (Eq.trans (R09_Reader_Gamma_e (R09_Reader_Get k) R09_Reader_back (R09_Reader_Bits k) (R09_Reader_Gamma_p0 k) (R09_Reader_Gamma_l1 k) (R09_Reader_Gamma_p2 k) k _ H K) h)
  · cases h
/-! ### R09_Reader_Unary: function 45 -/
def R09_Reader_Unary_p0_b {R : Type} (k : Nat) (p649 : Option Addr) (n650 : Int) (H : Heap) (KN : Option Addr → Int → Option R) (KR : Int → Int → Option R) : Option R :=
bif p649.isNone then (KR 0 6)
 else (hnil p649 fun p651 =>
hfad 0 p651 fun p652 =>
ldB H p652 fun t653 =>
bif (!t653) then (KR 0 6)
 else (KN p649 n650))
def R09_Reader_Unary_p0 {R : Type} (k : Nat) (p649 : Option Addr) (n650 : Int) (H : Heap) (KN : Option Addr → Int → Option R) (KR : Int → Int → Option R) : Option R := R09_Reader_Unary_p0_b k p649 n650 H KN KR

def R09_Reader_Unary_p1_b {R : Type} (k : Nat) (p660 : Option Addr) (n661 : Int) (KN : Option Addr → Int → Option R) (KR : Int → Int → Option R) : Option R :=
bif decide (n661 < 0) then (KR 0 1)
 else (bif decide (n661 > 65535) then (KR 0 1)
 else (KN p660 n661))
def R09_Reader_Unary_p1 {R : Type} (k : Nat) (p660 : Option Addr) (n661 : Int) (KN : Option Addr → Int → Option R) (KR : Int → Int → Option R) : Option R := R09_Reader_Unary_p1_b k p660 n661 KN KR

def R09_Reader_Unary_p3_b {R : Type} (k : Nat) (p682 : Option Addr) (n683 : Int) (n684 : Int) (n685 : Int) (n686 : Int) (n687 : Int) (n688 : Int) (KN : Option Addr → Int → Int → Int → Int → Int → Int → Option R) : Option R :=
bif (n688 == 0) then (bif (n687 == 1) then (bif (n686 == n683) then (KN p682 n683 n684 n685 n686 n687 8)
 else (KN p682 n683 n684 n685 n686 n687 n688))
 else (KN p682 n683 n684 n685 n686 n687 n688))
 else (KN p682 n683 n684 n685 n686 n687 n688)
def R09_Reader_Unary_p3 {R : Type} (k : Nat) (p682 : Option Addr) (n683 : Int) (n684 : Int) (n685 : Int) (n686 : Int) (n687 : Int) (n688 : Int) (KN : Option Addr → Int → Int → Int → Int → Int → Int → Option R) : Option R := R09_Reader_Unary_p3_b k p682 n683 n684 n685 n686 n687 n688 KN

def R09_Reader_Unary_l2_b {R : Type} (R09_Reader_Get : Option Addr → Heap → (Int → Int → Heap → Option R) → Option R) (R09_Reader_Unary_p3 : Option Addr → Int → Int → Int → Int → Int → Int → (Option Addr → Int → Int → Int → Int → Int → Int → Option R) → Option R) (R09_Reader_back : Option Addr → Int → Int → Heap → (Heap → Option R) → Option R) (rec : Option Addr → Int → Int → Int → Int → Heap → Option R) (KR : Int → Int → Heap → Option R) (k : Nat) (p674 : Option Addr) (n675 : Int) (n676 : Int) (n677 : Int) (n678 : Int) (H : Heap) : Option R :=
R09_Reader_Get p674 H fun n679 n680 H681 =>
R09_Reader_Unary_p3 p674 n675 n676 n677 n678 n679 n680 (fun p696 n697 n698 n699 n700 n701 n702 =>
bif (n702 != 0) then (R09_Reader_back p696 n698 n699 H681 fun H703 =>
KR 0 n702 H703)
 else (bif (n701 == 0) then (KR n700 0 H681)
 else (rec p696 n697 n698 n699 (IntKind.wrap .i64 (n700 + 1)) H681)))
def R09_Reader_Unary_l2 {R : Type} (k : Nat) (KR : Int → Int → Heap → Option R) : Nat → Option Addr → Int → Int → Int → Int → Heap → Option R
  | 0, _, _, _, _, _, _ => none
  | n + 1, p674, n675, n676, n677, n678, H => R09_Reader_Unary_l2_b (R09_Reader_Get k) (R09_Reader_Unary_p3 k) R09_Reader_back (R09_Reader_Unary_l2 k KR n) KR k p674 n675 n676 n677 n678 H

def R09_Reader_Unary_b {R : Type} (R09_Reader_Unary_p0 : Option Addr → Int → Heap → (Option Addr → Int → Option R) → (Int → Int → Option R) → Option R) (R09_Reader_Unary_p1 : Option Addr → Int → (Option Addr → Int → Option R) → (Int → Int → Option R) → Option R) (R09_Reader_Unary_l2 : (Int → Int → Heap → Option R) → Nat → Option Addr → Int → Int → Int → Int → Heap → Option R) (k : Nat) (p647 : Option Addr) (n648 : Int) (H : Heap) (K : Int → Int → Heap → Option R) : Option R :=
R09_Reader_Unary_p0 p647 n648 H (fun p658 n659 =>
R09_Reader_Unary_p1 p658 n659 (fun p666 n667 =>
hnil p666 fun p668 =>
hfad 2 p668 fun p669 =>
ldI .i64 H p669 fun n670 =>
hnil p666 fun p671 =>
hfad 3 p671 fun p672 =>
ldI .i64 H p672 fun n673 =>
R09_Reader_Unary_l2 (fun n706 n707 H708 =>
K n706 n707 H708) k p666 n667 n670 n673 0 H) (fun n709 n710 =>
K n709 n710 H)) (fun n711 n712 =>
K n711 n712 H)

def R09_Reader_Unary {R : Type} (k : Nat) (p647 : Option Addr) (n648 : Int) (H : Heap) (K : Int → Int → Heap → Option R) : Option R := R09_Reader_Unary_b (R09_Reader_Unary_p0 k) (R09_Reader_Unary_p1 k) (R09_Reader_Unary_l2 k) k p647 n648 H K

def R09_Reader_Unary_Ct {R : Type} (R09_Reader_Get : Option Addr → Heap → (Int → Int → Heap → Option R) → Option R) (R09_Reader_back : Option Addr → Int → Int → Heap → (Heap → Option R) → Option R) : Tab R := tcons 26 (R09_Reader_Get_ca R09_Reader_Get) <| tcons 53 (R09_Reader_back_ca R09_Reader_back) <| fun _ _ _ _ => none
def R09_Reader_Unary_C (R : Type) (k : Nat) : Tab R := R09_Reader_Unary_Ct (R09_Reader_Get k) R09_Reader_back
theorem R09_Reader_Unary_S (R : Type) (k : Nat) : CSound Try.prog (R09_Reader_Unary_C R k) := csound_cons (R09_Reader_Get_cs R k) <| csound_cons (R09_Reader_back_cs R k) <| csound_nil
def R09_Reader_Unary_aa0 {R : Type} (f : Option Addr → Int → Heap → (Option Addr → Int → Option R) → (Int → Int → Option R) → Option R) (n : Nat) (vals : List Value) (H : Heap) (K : Xit → Env → Heap → Option R) : Option R :=
  match vals with
  | [.pointer p649, .int .i64 n650] => f p649 n650 H (fun p1176 n1177 => K .normal [(0, .pointer p1176), (1, .int .i64 n1177)] H) (fun n1178 n1179 => K .ret [(4, .int .i64 n1178), (5, .int .i64 n1179)] H)
  | _ => none
def R09_Reader_Unary_a0 (R : Type) (k n : Nat) (vals : List Value) (H : Heap) (K : Xit → Env → Heap → Option R) : Option R := R09_Reader_Unary_aa0 (R09_Reader_Unary_p0 k) n vals H K
def R09_Reader_Unary_aa1 {R : Type} (f : Option Addr → Int → (Option Addr → Int → Option R) → (Int → Int → Option R) → Option R) (n : Nat) (vals : List Value) (H : Heap) (K : Xit → Env → Heap → Option R) : Option R :=
  match vals with
  | [.pointer p660, .int .i64 n661] => f p660 n661 (fun p1180 n1181 => K .normal [(0, .pointer p1180), (1, .int .i64 n1181)] H) (fun n1182 n1183 => K .ret [(4, .int .i64 n1182), (5, .int .i64 n1183)] H)
  | _ => none
def R09_Reader_Unary_a1 (R : Type) (k n : Nat) (vals : List Value) (H : Heap) (K : Xit → Env → Heap → Option R) : Option R := R09_Reader_Unary_aa1 (R09_Reader_Unary_p1 k) n vals H K
def R09_Reader_Unary_aa2 {R : Type} (f : (Int → Int → Heap → Option R) → Nat → Option Addr → Int → Int → Int → Int → Heap → Option R) (n : Nat) (vals : List Value) (H : Heap) (K : Xit → Env → Heap → Option R) : Option R :=
  match vals with
  | [.pointer p674, .int .i64 n675, .int .i64 n676, .int .i64 n677, .int .i64 n678] => f (fun n1184 n1185 H => K .ret [(4, .int .i64 n1184), (5, .int .i64 n1185)] H) n p674 n675 n676 n677 n678 H
  | _ => none
def R09_Reader_Unary_a2 (R : Type) (k n : Nat) (vals : List Value) (H : Heap) (K : Xit → Env → Heap → Option R) : Option R := R09_Reader_Unary_aa2 (R09_Reader_Unary_l2 k) n vals H K
def R09_Reader_Unary_aa3 {R : Type} (f : Option Addr → Int → Int → Int → Int → Int → Int → (Option Addr → Int → Int → Int → Int → Int → Int → Option R) → Option R) (n : Nat) (vals : List Value) (H : Heap) (K : Xit → Env → Heap → Option R) : Option R :=
  match vals with
  | [.pointer p682, .int .i64 n683, .int .i64 n684, .int .i64 n685, .int .i64 n686, .int .i64 n687, .int .i64 n688] => f p682 n683 n684 n685 n686 n687 n688 (fun p1186 n1187 n1188 n1189 n1190 n1191 n1192 => K .normal [(0, .pointer p1186), (1, .int .i64 n1187), (6, .int .i64 n1188), (7, .int .i64 n1189), (8, .int .i64 n1190), (9, .int .i64 n1191), (10, .int .i64 n1192)] H)
  | _ => none
def R09_Reader_Unary_a3 (R : Type) (k n : Nat) (vals : List Value) (H : Heap) (K : Xit → Env → Heap → Option R) : Option R := R09_Reader_Unary_aa3 (R09_Reader_Unary_p3 k) n vals H K
def R09_Reader_Unary_Jt {R : Type} (k : Nat) (R09_Reader_Unary_p0 : Option Addr → Int → Heap → (Option Addr → Int → Option R) → (Int → Int → Option R) → Option R) (R09_Reader_Unary_p1 : Option Addr → Int → (Option Addr → Int → Option R) → (Int → Int → Option R) → Option R) (R09_Reader_Unary_l2 : (Int → Int → Heap → Option R) → Nat → Option Addr → Int → Int → Int → Int → Heap → Option R) (R09_Reader_Unary_p3 : Option Addr → Int → Int → Int → Int → Int → Int → (Option Addr → Int → Int → Int → Int → Int → Int → Option R) → Option R) : JTab R := tcons 0 (R09_Reader_Unary_aa0 R09_Reader_Unary_p0 k) <| tcons 1 (R09_Reader_Unary_aa1 R09_Reader_Unary_p1 k) <| tcons 2 (R09_Reader_Unary_aa2 R09_Reader_Unary_l2 k) <| tcons 3 (R09_Reader_Unary_aa3 R09_Reader_Unary_p3 k) <| fun _ _ _ _ => none
def R09_Reader_Unary_J (R : Type) (k : Nat) : JTab R := R09_Reader_Unary_Jt k (R09_Reader_Unary_p0 k) (R09_Reader_Unary_p1 k) (R09_Reader_Unary_l2 k) (R09_Reader_Unary_p3 k)
def R09_Reader_Unary_at : AT := (.seq (.reg [0, 1] []) (.seq (.opq 0 [0, 1] ⟨[0, 1], [], [4, 5]⟩ (.seq (.reg [0, 1, 19] []) (.cond (.seq (.reg [4, 5] []) .leaf) .leaf))) (.seq (.opq 1 [0, 1] ⟨[0, 1], [], [4, 5]⟩ (.seq (.reg [0, 1, 25] []) (.cond (.seq (.reg [4, 5] []) .leaf) .leaf))) (.seq (.reg [0, 1, 6, 7] [[], [0], [0, 1], [0, 1, 2], [], [4], [4, 5], [4, 5, 6], [0, 1, 2, 3], [0, 1, 2, 3, 4, 5, 6, 7, 8]]) (.seq (.reg [0, 1, 6, 7, 8] []) (.node (.opq 2 [0, 1, 6, 7, 8] ⟨[], [], [4, 5]⟩ (.node (.node (.seq (.reg [0, 1, 6, 7, 8, 9, 10] []) (.seq (.opq 3 [0, 1, 6, 7, 8, 9, 10] ⟨[0, 1, 6, 7, 8, 9, 10], [], []⟩ (.seq (.reg [0, 1, 6, 7, 8, 9, 10, 49] []) (.cond (.reg [0, 1, 6, 7, 8, 9, 10] []) .leaf))) (.seq (.seq (.reg [0, 1, 6, 7, 8, 9, 10, 51] []) (.cond (.seq (.reg [10] []) (.seq (.reg [4, 5] []) .leaf)) .leaf)) (.seq (.seq (.reg [0, 1, 6, 7, 8, 58] []) (.cond (.seq (.reg [4, 5] []) .leaf) .leaf)) (.reg [0, 1, 6, 7, 8] []))))))))))))))
def R09_Reader_Unary_i3 : IC := (.seq (.reg [⟨some 39, .mov (.t 10), none⟩,
 ⟨some 40, .cmp .eql (.t 39) (.c (Go.Value.int Go.IntKind.i64 0)), none⟩,
 ⟨some 41, .mov (.t 40), none⟩,
 ⟨some 42, .mov (.t 9), some (41, true)⟩,
 ⟨some 43, .cmp .eql (.t 42) (.c (Go.Value.int Go.IntKind.i64 1)), some (41, true)⟩,
 ⟨some 44, .pick (.t 41) (.t 43) (.c (Go.Value.bool false)), none⟩,
 ⟨some 45, .mov (.t 44), none⟩,
 ⟨some 46, .mov (.t 8), some (45, true)⟩,
 ⟨some 47, .mov (.t 1), some (45, true)⟩,
 ⟨some 48, .cmp .eql (.t 46) (.t 47), some (45, true)⟩,
 ⟨some 49, .pick (.t 45) (.t 48) (.c (Go.Value.bool false)), none⟩] [0, 1, 6, 7, 8, 9, 10, 49]) (.cond (.t 49) (.reg [⟨some 10, .mov (.c (Go.Value.int Go.IntKind.i64 8)), none⟩] [0, 1, 6, 7, 8, 9, 10]) .skip))
def R09_Reader_Unary_i2 : IC := (.block 1 (.seq (.reg [⟨some 35, .mov (.t 0), none⟩,
 ⟨some 36, .call 26 [(.t 35)] (.tup [(.sc (.int .i64)), (.sc (.int .i64))]), none⟩,
 ⟨some 34, .mov (.t 36), none⟩,
 ⟨some 37, .ext 0 (.t 34), none⟩,
 ⟨some 38, .ext 1 (.t 34), none⟩,
 ⟨some 9, .mov (.t 37), none⟩,
 ⟨some 10, .mov (.t 38), none⟩] [0, 1, 6, 7, 8, 9, 10]) (.seq (.opq 3 [0, 1, 6, 7, 8, 9, 10] R09_Reader_Unary_i3) (.seq (.seq (.reg [⟨some 50, .mov (.t 10), none⟩,
 ⟨some 51, .cmp .neq (.t 50) (.c (Go.Value.int Go.IntKind.i64 0)), none⟩] [0, 1, 6, 7, 8, 9, 10, 51]) (.cond (.t 51) (.seq (.reg [⟨some 52, .mov (.t 0), none⟩,
 ⟨some 53, .mov (.t 6), none⟩,
 ⟨some 54, .mov (.t 7), none⟩,
 ⟨some 55, .call 53 [(.t 52), (.t 53), (.t 54)] .none, none⟩] [10]) (.seq (.reg [⟨some 56, .mov (.t 10), none⟩,
 ⟨some 4, .mov (.c (Go.Value.int Go.IntKind.i64 0)), none⟩,
 ⟨some 5, .mov (.t 56), none⟩] [4, 5]) .ret)) .skip)) (.seq (.seq (.reg [⟨some 57, .mov (.t 9), none⟩,
 ⟨some 58, .cmp .eql (.t 57) (.c (Go.Value.int Go.IntKind.i64 0)), none⟩] [0, 1, 6, 7, 8, 58]) (.cond (.t 58) (.seq (.reg [⟨some 59, .mov (.t 8), none⟩,
 ⟨some 4, .mov (.t 59), none⟩,
 ⟨some 5, .mov (.c (Go.Value.int Go.IntKind.i64 0)), none⟩] [4, 5]) .ret) .skip)) (.reg [⟨some 60, .mov (.t 8), none⟩,
 ⟨some 61, .bin .add .i64 (.t 60) (.c (Go.Value.int Go.IntKind.i64 1)), none⟩,
 ⟨some 8, .mov (.t 61), none⟩] [0, 1, 6, 7, 8]))))))
def R09_Reader_Unary_i1 : IC := (.seq (.reg [⟨some 20, .mov (.t 1), none⟩,
 ⟨some 21, .cmp .lss (.t 20) (.c (Go.Value.int Go.IntKind.i64 0)), none⟩,
 ⟨some 22, .mov (.t 21), none⟩,
 ⟨some 23, .mov (.t 1), some (22, false)⟩,
 ⟨some 24, .cmp .gtr (.t 23) (.c (Go.Value.int Go.IntKind.i64 65535)), some (22, false)⟩,
 ⟨some 25, .pick (.t 22) (.c (Go.Value.bool true)) (.t 24), none⟩] [0, 1, 25]) (.cond (.t 25) (.seq (.reg [⟨some 4, .mov (.c (Go.Value.int Go.IntKind.i64 0)), none⟩,
 ⟨some 5, .mov (.c (Go.Value.int Go.IntKind.i64 1)), none⟩] [4, 5]) .ret) .skip))
def R09_Reader_Unary_i0 : IC := (.seq (.reg [⟨some 11, .mov (.t 0), none⟩,
 ⟨some 12, .eqnil (.t 11) false 0, none⟩,
 ⟨some 13, .mov (.t 12), none⟩,
 ⟨some 14, .mov (.t 0), some (13, false)⟩,
 ⟨some 15, .nilc (.t 14), some (13, false)⟩,
 ⟨some 16, .fad 0 (.t 15), some (13, false)⟩,
 ⟨some 17, .ld (.sc .bool) (.t 16), some (13, false)⟩,
 ⟨some 18, .lnot (.t 17), some (13, false)⟩,
 ⟨some 19, .pick (.t 13) (.c (Go.Value.bool true)) (.t 18), none⟩] [0, 1, 19]) (.cond (.t 19) (.seq (.reg [⟨some 4, .mov (.c (Go.Value.int Go.IntKind.i64 0)), none⟩,
 ⟨some 5, .mov (.c (Go.Value.int Go.IntKind.i64 6)), none⟩] [4, 5]) .ret) .skip))
def R09_Reader_Unary_f : IFn := ⟨62, [.t 4, .t 5], (.seq (.reg [⟨some 4, .mov (.c (Go.Value.int Go.IntKind.i64 0)), none⟩,
 ⟨some 5, .mov (.c (Go.Value.int Go.IntKind.i64 0)), none⟩] [0, 1]) (.seq (.opq 0 [0, 1] R09_Reader_Unary_i0) (.seq (.opq 1 [0, 1] R09_Reader_Unary_i1) (.seq (.reg [⟨some 26, .mov (.t 0), none⟩,
 ⟨some 27, .nilc (.t 26), none⟩,
 ⟨some 28, .fad 2 (.t 27), none⟩,
 ⟨some 29, .ld (.sc (.int .i64)) (.t 28), none⟩,
 ⟨some 30, .mov (.t 0), none⟩,
 ⟨some 31, .nilc (.t 30), none⟩,
 ⟨some 32, .fad 3 (.t 31), none⟩,
 ⟨some 33, .ld (.sc (.int .i64)) (.t 32), none⟩,
 ⟨some 6, .mov (.t 29), none⟩,
 ⟨some 7, .mov (.t 33), none⟩] [0, 1, 6, 7]) (.seq (.reg [⟨some 8, .mov (.c (Go.Value.int Go.IntKind.i64 0)), none⟩] [0, 1, 6, 7, 8]) (.block 0 (.opq 2 [0, 1, 6, 7, 8] (.loop R09_Reader_Unary_i2))))))))⟩
theorem R09_Reader_Unary_e3 {R : Type} (R09_Reader_Get : Option Addr → Heap → (Int → Int → Heap → Option R) → Option R) (R09_Reader_back : Option Addr → Int → Int → Heap → (Heap → Option R) → Option R) (R09_Reader_Unary_p0 : Option Addr → Int → Heap → (Option Addr → Int → Option R) → (Int → Int → Option R) → Option R) (R09_Reader_Unary_p1 : Option Addr → Int → (Option Addr → Int → Option R) → (Int → Int → Option R) → Option R) (R09_Reader_Unary_l2 : (Int → Int → Heap → Option R) → Nat → Option Addr → Int → Int → Int → Int → Heap → Option R) (R09_Reader_Unary_p3 : Option Addr → Int → Int → Int → Int → Int → Int → (Option Addr → Int → Int → Int → Int → Int → Int → Option R) → Option R) (k : Nat) (p682 : Option Addr) (n683 : Int) (n684 : Int) (n685 : Int) (n686 : Int) (n687 : Int) (n688 : Int) (H : Heap) (K : Xit → Env → Heap → Option R) : evJ (R09_Reader_Unary_Ct R09_Reader_Get R09_Reader_back) (R09_Reader_Unary_Jt k R09_Reader_Unary_p0 R09_Reader_Unary_p1 R09_Reader_Unary_l2 R09_Reader_Unary_p3) R09_Reader_Unary_i3 (List.zip [0, 1, 6, 7, 8, 9, 10] [.pointer p682, .int .i64 n683, .int .i64 n684, .int .i64 n685, .int .i64 n686, .int .i64 n687, .int .i64 n688]) H (fun x e' H' => K x (clean e' ((⟨[0, 1, 6, 7, 8, 9, 10], [], []⟩ : Out).of x)) H') = R09_Reader_Unary_p3_b k p682 n683 n684 n685 n686 n687 n688 (fun p1186 n1187 n1188 n1189 n1190 n1191 n1192 => K .normal [(0, .pointer p1186), (1, .int .i64 n1187), (6, .int .i64 n1188), (7, .int .i64 n1189), (8, .int .i64 n1190), (9, .int .i64 n1191), (10, .int .i64 n1192)] H) := by kernel_rfl
theorem R09_Reader_Unary_j3 {R : Type} (k : Nat) : JS Try.prog 62 (R09_Reader_Unary_a3 R k k) [0, 1, 6, 7, 8, 9, 10] ⟨[0, 1, 6, 7, 8, 9, 10], [], []⟩ (sel [1, 1, 1, 1, 1, 0, 0, 0, 1, 0] (Try.f45.body.getD .skip)) :=
  piece_ok (nt := 62) (c := (sel [1, 1, 1, 1, 1, 0, 0, 0, 1, 0] (Try.f45.body.getD .skip))) (C := R09_Reader_Unary_C R k) (an := An) (t := (.seq (.reg [0, 1, 6, 7, 8, 9, 10, 49] []) (.cond (.reg [0, 1, 6, 7, 8, 9, 10] []) .leaf))) (ic := R09_Reader_Unary_i3) (R09_Reader_Unary_S R k) (R09_Reader_Unary_J R k) (by kernel_rfl) (And.intro True.intro (And.intro True.intro True.intro)) (R09_Reader_Unary_a3 R k k)
    (fun vals H K r h => by
      unfold R09_Reader_Unary_a3 R09_Reader_Unary_aa3 at h
      split at h <;> first | (cases h; done) | exact Eq.trans (R09_Reader_Unary_e3 (R09_Reader_Get k) R09_Reader_back (R09_Reader_Unary_p0 k) (R09_Reader_Unary_p1 k) (R09_Reader_Unary_l2 k) (R09_Reader_Unary_p3 k) k _ _ _ _ _ _ _ H K) h)
theorem R09_Reader_Unary_e2 {R : Type} (R09_Reader_Get : Option Addr → Heap → (Int → Int → Heap → Option R) → Option R) (R09_Reader_back : Option Addr → Int → Int → Heap → (Heap → Option R) → Option R) (R09_Reader_Unary_p0 : Option Addr → Int → Heap → (Option Addr → Int → Option R) → (Int → Int → Option R) → Option R) (R09_Reader_Unary_p1 : Option Addr → Int → (Option Addr → Int → Option R) → (Int → Int → Option R) → Option R) (R09_Reader_Unary_l2 : (Int → Int → Heap → Option R) → Nat → Option Addr → Int → Int → Int → Int → Heap → Option R) (R09_Reader_Unary_p3 : Option Addr → Int → Int → Int → Int → Int → Int → (Option Addr → Int → Int → Int → Int → Int → Int → Option R) → Option R) (k n : Nat) (p674 : Option Addr) (n675 : Int) (n676 : Int) (n677 : Int) (n678 : Int) (H : Heap) (K : Xit → Env → Heap → Option R) : evJ (R09_Reader_Unary_Ct R09_Reader_Get R09_Reader_back) (R09_Reader_Unary_Jt k R09_Reader_Unary_p0 R09_Reader_Unary_p1 R09_Reader_Unary_l2 R09_Reader_Unary_p3) R09_Reader_Unary_i2 (List.zip [0, 1, 6, 7, 8] [.pointer p674, .int .i64 n675, .int .i64 n676, .int .i64 n677, .int .i64 n678]) H (fun x e' H' => match x with | .normal => R09_Reader_Unary_aa2 R09_Reader_Unary_l2 n ((clean e' [0, 1, 6, 7, 8]).map (·.2)) H' K | x => K x (clean e' ((⟨[], [], [4, 5]⟩ : Out).of x)) H') = R09_Reader_Unary_l2_b R09_Reader_Get R09_Reader_Unary_p3 R09_Reader_back (R09_Reader_Unary_l2 (fun n1184 n1185 H => K .ret [(4, .int .i64 n1184), (5, .int .i64 n1185)] H) n) (fun n1184 n1185 H => K .ret [(4, .int .i64 n1184), (5, .int .i64 n1185)] H) k p674 n675 n676 n677 n678 H := by kernel_rfl
theorem R09_Reader_Unary_j2 {R : Type} (k : Nat) : JS Try.prog 62 (R09_Reader_Unary_a2 R k k) [0, 1, 6, 7, 8] ⟨[], [], [4, 5]⟩ (.loop (sel [1, 1, 1, 1, 1, 0, 0] (Try.f45.body.getD .skip))) :=
  loop_ok (nt := 62) (c := (sel [1, 1, 1, 1, 1, 0, 0] (Try.f45.body.getD .skip))) (C := R09_Reader_Unary_C R k) (an := An) (t := (.node (.seq (.reg [0, 1, 6, 7, 8, 9, 10] []) (.seq (.opq 3 [0, 1, 6, 7, 8, 9, 10] ⟨[0, 1, 6, 7, 8, 9, 10], [], []⟩ (.seq (.reg [0, 1, 6, 7, 8, 9, 10, 49] []) (.cond (.reg [0, 1, 6, 7, 8, 9, 10] []) .leaf))) (.seq (.seq (.reg [0, 1, 6, 7, 8, 9, 10, 51] []) (.cond (.seq (.reg [10] []) (.seq (.reg [4, 5] []) .leaf)) .leaf)) (.seq (.seq (.reg [0, 1, 6, 7, 8, 58] []) (.cond (.seq (.reg [4, 5] []) .leaf) .leaf)) (.reg [0, 1, 6, 7, 8] []))))))) (ic := R09_Reader_Unary_i2) (R09_Reader_Unary_S R k) (R09_Reader_Unary_J R k) (by kernel_rfl) (And.intro True.intro (And.intro (R09_Reader_Unary_j3 k) (And.intro (And.intro True.intro (And.intro (And.intro True.intro (And.intro True.intro True.intro)) True.intro)) (And.intro (And.intro True.intro (And.intro (And.intro True.intro True.intro) True.intro)) True.intro)))) (R09_Reader_Unary_a2 R k) (fun vals H K => by unfold R09_Reader_Unary_a2 R09_Reader_Unary_aa2; split <;> rfl)
    (fun n vals H K r h => by
      unfold R09_Reader_Unary_a2 R09_Reader_Unary_aa2 at h
      split at h <;> first | (cases h; done) | exact Eq.trans (R09_Reader_Unary_e2 (R09_Reader_Get k) R09_Reader_back (R09_Reader_Unary_p0 k) (R09_Reader_Unary_p1 k) (R09_Reader_Unary_l2 k) (R09_Reader_Unary_p3 k) k n _ _ _ _ _ H K) h) k
theorem R09_Reader_Unary_e1 {R : Type} (R09_Reader_Get : Option Addr → Heap → (Int → Int → Heap → Option R) → Option R) (R09_Reader_back : Option Addr → Int → Int → Heap → (Heap → Option R) → Option R) (R09_Reader_Unary_p0 : Option Addr → Int → Heap → (Option Addr → Int → Option R) → (Int → Int → Option R) → Option R) (R09_Reader_Unary_p1 : Option Addr → Int → (Option Addr → Int → Option R) → (Int → Int → Option R) → Option R) (R09_Reader_Unary_l2 : (Int → Int → Heap → Option R) → Nat → Option Addr → Int → Int → Int → Int → Heap → Option R) (R09_Reader_Unary_p3 : Option Addr → Int → Int → Int → Int → Int → Int → (Option Addr → Int → Int → Int → Int → Int → Int → Option R) → Option R) (k : Nat) (p660 : Option Addr) (n661 : Int) (H : Heap) (K : Xit → Env → Heap → Option R) : evJ (R09_Reader_Unary_Ct R09_Reader_Get R09_Reader_back) (R09_Reader_Unary_Jt k R09_Reader_Unary_p0 R09_Reader_Unary_p1 R09_Reader_Unary_l2 R09_Reader_Unary_p3) R09_Reader_Unary_i1 (List.zip [0, 1] [.pointer p660, .int .i64 n661]) H (fun x e' H' => K x (clean e' ((⟨[0, 1], [], [4, 5]⟩ : Out).of x)) H') = R09_Reader_Unary_p1_b k p660 n661 (fun p1180 n1181 => K .normal [(0, .pointer p1180), (1, .int .i64 n1181)] H) (fun n1182 n1183 => K .ret [(4, .int .i64 n1182), (5, .int .i64 n1183)] H) := by kernel_rfl
theorem R09_Reader_Unary_j1 {R : Type} (k : Nat) : JS Try.prog 62 (R09_Reader_Unary_a1 R k k) [0, 1] ⟨[0, 1], [], [4, 5]⟩ (sel [1, 1, 0] (Try.f45.body.getD .skip)) :=
  piece_ok (nt := 62) (c := (sel [1, 1, 0] (Try.f45.body.getD .skip))) (C := R09_Reader_Unary_C R k) (an := An) (t := (.seq (.reg [0, 1, 25] []) (.cond (.seq (.reg [4, 5] []) .leaf) .leaf))) (ic := R09_Reader_Unary_i1) (R09_Reader_Unary_S R k) (R09_Reader_Unary_J R k) (by kernel_rfl) (And.intro True.intro (And.intro (And.intro True.intro True.intro) True.intro)) (R09_Reader_Unary_a1 R k k)
    (fun vals H K r h => by
      unfold R09_Reader_Unary_a1 R09_Reader_Unary_aa1 at h
      split at h <;> first | (cases h; done) | exact Eq.trans (R09_Reader_Unary_e1 (R09_Reader_Get k) R09_Reader_back (R09_Reader_Unary_p0 k) (R09_Reader_Unary_p1 k) (R09_Reader_Unary_l2 k) (R09_Reader_Unary_p3 k) k _ _ H K) h)
theorem R09_Reader_Unary_e0 {R : Type} (R09_Reader_Get : Option Addr → Heap → (Int → Int → Heap → Option R) → Option R) (R09_Reader_back : Option Addr → Int → Int → Heap → (Heap → Option R) → Option R) (R09_Reader_Unary_p0 : Option Addr → Int → Heap → (Option Addr → Int → Option R) → (Int → Int → Option R) → Option R) (R09_Reader_Unary_p1 : Option Addr → Int → (Option Addr → Int → Option R) → (Int → Int → Option R) → Option R) (R09_Reader_Unary_l2 : (Int → Int → Heap → Option R) → Nat → Option Addr → Int → Int → Int → Int → Heap → Option R) (R09_Reader_Unary_p3 : Option Addr → Int → Int → Int → Int → Int → Int → (Option Addr → Int → Int → Int → Int → Int → Int → Option R) → Option R) (k : Nat) (p649 : Option Addr) (n650 : Int) (H : Heap) (K : Xit → Env → Heap → Option R) : evJ (R09_Reader_Unary_Ct R09_Reader_Get R09_Reader_back) (R09_Reader_Unary_Jt k R09_Reader_Unary_p0 R09_Reader_Unary_p1 R09_Reader_Unary_l2 R09_Reader_Unary_p3) R09_Reader_Unary_i0 (List.zip [0, 1] [.pointer p649, .int .i64 n650]) H (fun x e' H' => K x (clean e' ((⟨[0, 1], [], [4, 5]⟩ : Out).of x)) H') = R09_Reader_Unary_p0_b k p649 n650 H (fun p1176 n1177 => K .normal [(0, .pointer p1176), (1, .int .i64 n1177)] H) (fun n1178 n1179 => K .ret [(4, .int .i64 n1178), (5, .int .i64 n1179)] H) := by kernel_rfl
theorem R09_Reader_Unary_j0 {R : Type} (k : Nat) : JS Try.prog 62 (R09_Reader_Unary_a0 R k k) [0, 1] ⟨[0, 1], [], [4, 5]⟩ (sel [1, 0] (Try.f45.body.getD .skip)) :=
  piece_ok (nt := 62) (c := (sel [1, 0] (Try.f45.body.getD .skip))) (C := R09_Reader_Unary_C R k) (an := An) (t := (.seq (.reg [0, 1, 19] []) (.cond (.seq (.reg [4, 5] []) .leaf) .leaf))) (ic := R09_Reader_Unary_i0) (R09_Reader_Unary_S R k) (R09_Reader_Unary_J R k) (by kernel_rfl) (And.intro True.intro (And.intro (And.intro True.intro True.intro) True.intro)) (R09_Reader_Unary_a0 R k k)
    (fun vals H K r h => by
      unfold R09_Reader_Unary_a0 R09_Reader_Unary_aa0 at h
      split at h <;> first | (cases h; done) | exact Eq.trans (R09_Reader_Unary_e0 (R09_Reader_Get k) R09_Reader_back (R09_Reader_Unary_p0 k) (R09_Reader_Unary_p1 k) (R09_Reader_Unary_l2 k) (R09_Reader_Unary_p3 k) k _ _ H K) h)
def R09_Reader_Unary_ca {R : Type} (f : Option Addr → Int → Heap → (Int → Int → Heap → Option R) → Option R) (args : List Value) (H : Heap) (K : Value → Heap → Option R) : Option R :=
  match args with
  | [.pointer p647, .int .i64 n648] => f p647 n648 H (fun n1193 n1194 H => K (.tuple ⟨[.int .i64 n1193, .int .i64 n1194]⟩) H)
  | _ => none
def R09_Reader_Unary_c (R : Type) (k : Nat) (args : List Value) (H : Heap) (K : Value → Heap → Option R) : Option R := R09_Reader_Unary_ca (R09_Reader_Unary k) args H K
theorem R09_Reader_Unary_e {R : Type} (R09_Reader_Get : Option Addr → Heap → (Int → Int → Heap → Option R) → Option R) (R09_Reader_back : Option Addr → Int → Int → Heap → (Heap → Option R) → Option R) (R09_Reader_Unary_p0 : Option Addr → Int → Heap → (Option Addr → Int → Option R) → (Int → Int → Option R) → Option R) (R09_Reader_Unary_p1 : Option Addr → Int → (Option Addr → Int → Option R) → (Int → Int → Option R) → Option R) (R09_Reader_Unary_l2 : (Int → Int → Heap → Option R) → Nat → Option Addr → Int → Int → Int → Int → Heap → Option R) (R09_Reader_Unary_p3 : Option Addr → Int → Int → Int → Int → Int → Int → (Option Addr → Int → Int → Int → Int → Int → Int → Option R) → Option R) (k : Nat) (p647 : Option Addr) (n648 : Int) (H : Heap) (K : Value → Heap → Option R) : evF (R09_Reader_Unary_Ct R09_Reader_Get R09_Reader_back) (R09_Reader_Unary_Jt k R09_Reader_Unary_p0 R09_Reader_Unary_p1 R09_Reader_Unary_l2 R09_Reader_Unary_p3) R09_Reader_Unary_f [.pointer p647, .int .i64 n648] H K = R09_Reader_Unary_b R09_Reader_Unary_p0 R09_Reader_Unary_p1 R09_Reader_Unary_l2 k p647 n648 H (fun n1193 n1194 H => K (.tuple ⟨[.int .i64 n1193, .int .i64 n1194]⟩) H) := by kernel_rfl
theorem R09_Reader_Unary_cs (R : Type) (k : Nat) : ∀ args H K r, R09_Reader_Unary_c R k args H K = some r → ∃ v H', Tri Try.prog 45 args H v H' ∧ K v H' = some r := by
  intro args H K r h
  unfold R09_Reader_Unary_c R09_Reader_Unary_ca at h
  split at h
  · exact evF_ok (C := R09_Reader_Unary_C R k) (an := An) (t := R09_Reader_Unary_at) (fn := Try.f45) (c := (Try.f45.body.getD .skip)) (ifn := R09_Reader_Unary_f) (R09_Reader_Unary_S R k) (R09_Reader_Unary_J R k) Try.func45 (by kernel_rfl) (by kernel_rfl) (And.intro True.intro (And.intro (R09_Reader_Unary_j0 k) (And.intro (R09_Reader_Unary_j1 k) (And.intro True.intro (And.intro True.intro (R09_Reader_Unary_j2 k)))))) rfl (Eq.trans (R09_Reader_Unary_e (R09_Reader_Get k) R09_Reader_back (R09_Reader_Unary_p0 k) (R09_Reader_Unary_p1 k) (R09_Reader_Unary_l2 k) (R09_Reader_Unary_p3 k) k _ _ H K) h)
  · cases h
/-! ### R09_Reader_Align: function 46 -/
def R09_Reader_Align_p0_b {R : Type} (k : Nat) (p719 : Option Addr) (H : Heap) (KN : Option Addr → Option R) (KR : Int → Int → Option R) : Option R :=
bif p719.isNone then (KR 0 6)
 else (hnil p719 fun p720 =>
hfad 0 p720 fun p721 =>
ldB H p721 fun t722 =>
bif (!t722) then (KR 0 6)
 else (KN p719))
def R09_Reader_Align_p0 {R : Type} (k : Nat) (p719 : Option Addr) (H : Heap) (KN : Option Addr → Option R) (KR : Int → Int → Option R) : Option R := R09_Reader_Align_p0_b k p719 H KN KR

def R09_Reader_Align_p1_b {R : Type} (k : Nat) (p727 : Option Addr) (H : Heap) (KN : Option Addr → Option R) (KR : Int → Int → Option R) : Option R :=
hnil p727 fun p728 =>
hfad 3 p728 fun p729 =>
ldI .i64 H p729 fun n730 =>
bif decide (n730 > 0) then (hnil p727 fun p731 =>
hfad 1 p731 fun p732 =>
ldL H p732 fun q733 l734 c735 =>
hnil p727 fun p736 =>
hfad 2 p736 fun p737 =>
ldI .i64 H p737 fun n738 =>
hidx q733 l734 (IntKind.wrap .i64 (n738 - 1)) 1 fun p739 =>
ldI .u8 H p739 fun n740 =>
hnil p727 fun p741 =>
hfad 3 p741 fun p742 =>
ldI .i64 H p742 fun n743 =>
hbin .shl .i64 1 (IntKind.wrap .u64 n743) fun n744 =>
hbin .and .i64 (IntKind.wrap .i64 n740) (IntKind.wrap .i64 (n744 - 1)) fun n745 =>
bif (n745 != 0) then (KR 0 8)
 else (KN p727))
 else (KN p727)
def R09_Reader_Align_p1 {R : Type} (k : Nat) (p727 : Option Addr) (H : Heap) (KN : Option Addr → Option R) (KR : Int → Int → Option R) : Option R := R09_Reader_Align_p1_b k p727 H KN KR

def R09_Reader_Align_p3_b {R : Type} (k : Nat) (p751 : Option Addr) (H : Heap) (KN : Option Addr → Bool → Option R) : Option R :=
hnil p751 fun p752 =>
hfad 3 p752 fun p753 =>
ldI .i64 H p753 fun n754 =>
bif (n754 == 0) then (hnil p751 fun p755 =>
hfad 2 p755 fun p756 =>
ldI .i64 H p756 fun n757 =>
bif decide (n757 > 0) then (hnil p751 fun p758 =>
hfad 1 p758 fun p759 =>
ldL H p759 fun q760 l761 c762 =>
hnil p751 fun p763 =>
hfad 2 p763 fun p764 =>
ldI .i64 H p764 fun n765 =>
hidx q760 l761 (IntKind.wrap .i64 (n765 - 1)) 1 fun p766 =>
ldI .u8 H p766 fun n767 =>
KN p751 (n767 == 255))
 else (KN p751 false))
 else (KN p751 false)
def R09_Reader_Align_p3 {R : Type} (k : Nat) (p751 : Option Addr) (H : Heap) (KN : Option Addr → Bool → Option R) : Option R := R09_Reader_Align_p3_b k p751 H KN

def R09_Reader_Align_p2_b {R : Type} (R09_Reader_Align_p3 : Option Addr → Heap → (Option Addr → Bool → Option R) → Option R) (k : Nat) (p750 : Option Addr) (H : Heap) (KN : Option Addr → Heap → Option R) (KR : Int → Int → Heap → Option R) : Option R :=
R09_Reader_Align_p3 p750 H (fun p770 t771 =>
bif t771 then (hnil p770 fun p772 =>
hfad 2 p772 fun p773 =>
ldI .i64 H p773 fun n774 =>
hnil p770 fun p775 =>
hfad 1 p775 fun p776 =>
ldL H p776 fun q777 l778 c779 =>
bif decide (n774 ≥ ((l778 : Nat) : Int)) then (KR 0 7 H)
 else (hnil p770 fun p780 =>
hfad 1 p780 fun p781 =>
ldL H p781 fun q782 l783 c784 =>
hnil p770 fun p785 =>
hfad 2 p785 fun p786 =>
ldI .i64 H p786 fun n787 =>
hidx q782 l783 n787 1 fun p788 =>
ldI .u8 H p788 fun n789 =>
bif (n789 != 0) then (KR 0 8 H)
 else (hnil p770 fun p790 =>
hfad 2 p790 fun p791 =>
ldI .i64 H p791 fun n792 =>
hnil p770 fun p793 =>
hfad 2 p793 fun p794 =>
hst1 H p794 (.int .i64 (IntKind.wrap .i64 (n792 + 1))) fun H795 =>
KN p770 H795)))
 else (KN p770 H))
def R09_Reader_Align_p2 {R : Type} (k : Nat) (p750 : Option Addr) (H : Heap) (KN : Option Addr → Heap → Option R) (KR : Int → Int → Heap → Option R) : Option R := R09_Reader_Align_p2_b (R09_Reader_Align_p3 k) k p750 H KN KR

def R09_Reader_Align_b {R : Type} (R09_Reader_Align_p0 : Option Addr → Heap → (Option Addr → Option R) → (Int → Int → Option R) → Option R) (R09_Reader_Align_p1 : Option Addr → Heap → (Option Addr → Option R) → (Int → Int → Option R) → Option R) (R09_Reader_Align_p2 : Option Addr → Heap → (Option Addr → Heap → Option R) → (Int → Int → Heap → Option R) → Option R) (k : Nat) (p718 : Option Addr) (H : Heap) (K : Int → Int → Heap → Option R) : Option R :=
R09_Reader_Align_p0 p718 H (fun p726 =>
R09_Reader_Align_p1 p726 H (fun p749 =>
R09_Reader_Align_p2 p749 H (fun p799 H800 =>
hnil p799 fun p801 =>
hfad 3 p801 fun p802 =>
hst1 H800 p802 (.int .i64 0) fun H803 =>
hnil p799 fun p804 =>
hfad 2 p804 fun p805 =>
ldI .i64 H803 p805 fun n806 =>
K n806 0 H803) (fun n807 n808 H809 =>
K n807 n808 H809)) (fun n810 n811 =>
K n810 n811 H)) (fun n812 n813 =>
K n812 n813 H)

def R09_Reader_Align {R : Type} (k : Nat) (p718 : Option Addr) (H : Heap) (K : Int → Int → Heap → Option R) : Option R := R09_Reader_Align_b (R09_Reader_Align_p0 k) (R09_Reader_Align_p1 k) (R09_Reader_Align_p2 k) k p718 H K

def R09_Reader_Align_Ct {R : Type} : Tab R := fun _ _ _ _ => none
def R09_Reader_Align_C (R : Type) (k : Nat) : Tab R := R09_Reader_Align_Ct
theorem R09_Reader_Align_S (R : Type) (k : Nat) : CSound Try.prog (R09_Reader_Align_C R k) := csound_nil
def R09_Reader_Align_aa0 {R : Type} (f : Option Addr → Heap → (Option Addr → Option R) → (Int → Int → Option R) → Option R) (n : Nat) (vals : List Value) (H : Heap) (K : Xit → Env → Heap → Option R) : Option R :=
  match vals with
  | [.pointer p719] => f p719 H (fun p1195 => K .normal [(0, .pointer p1195)] H) (fun n1196 n1197 => K .ret [(2, .int .i64 n1196), (3, .int .i64 n1197)] H)
  | _ => none
def R09_Reader_Align_a0 (R : Type) (k n : Nat) (vals : List Value) (H : Heap) (K : Xit → Env → Heap → Option R) : Option R := R09_Reader_Align_aa0 (R09_Reader_Align_p0 k) n vals H K
def R09_Reader_Align_aa1 {R : Type} (f : Option Addr → Heap → (Option Addr → Option R) → (Int → Int → Option R) → Option R) (n : Nat) (vals : List Value) (H : Heap) (K : Xit → Env → Heap → Option R) : Option R :=
  match vals with
  | [.pointer p727] => f p727 H (fun p1198 => K .normal [(0, .pointer p1198)] H) (fun n1199 n1200 => K .ret [(2, .int .i64 n1199), (3, .int .i64 n1200)] H)
  | _ => none
def R09_Reader_Align_a1 (R : Type) (k n : Nat) (vals : List Value) (H : Heap) (K : Xit → Env → Heap → Option R) : Option R := R09_Reader_Align_aa1 (R09_Reader_Align_p1 k) n vals H K
def R09_Reader_Align_aa2 {R : Type} (f : Option Addr → Heap → (Option Addr → Heap → Option R) → (Int → Int → Heap → Option R) → Option R) (n : Nat) (vals : List Value) (H : Heap) (K : Xit → Env → Heap → Option R) : Option R :=
  match vals with
  | [.pointer p750] => f p750 H (fun p1201 H => K .normal [(0, .pointer p1201)] H) (fun n1202 n1203 H => K .ret [(2, .int .i64 n1202), (3, .int .i64 n1203)] H)
  | _ => none
def R09_Reader_Align_a2 (R : Type) (k n : Nat) (vals : List Value) (H : Heap) (K : Xit → Env → Heap → Option R) : Option R := R09_Reader_Align_aa2 (R09_Reader_Align_p2 k) n vals H K
def R09_Reader_Align_aa3 {R : Type} (f : Option Addr → Heap → (Option Addr → Bool → Option R) → Option R) (n : Nat) (vals : List Value) (H : Heap) (K : Xit → Env → Heap → Option R) : Option R :=
  match vals with
  | [.pointer p751] => f p751 H (fun p1204 t1205 => K .normal [(0, .pointer p1204), (66, .bool t1205)] H)
  | _ => none
def R09_Reader_Align_a3 (R : Type) (k n : Nat) (vals : List Value) (H : Heap) (K : Xit → Env → Heap → Option R) : Option R := R09_Reader_Align_aa3 (R09_Reader_Align_p3 k) n vals H K
def R09_Reader_Align_Jt {R : Type} (k : Nat) (R09_Reader_Align_p0 : Option Addr → Heap → (Option Addr → Option R) → (Int → Int → Option R) → Option R) (R09_Reader_Align_p1 : Option Addr → Heap → (Option Addr → Option R) → (Int → Int → Option R) → Option R) (R09_Reader_Align_p2 : Option Addr → Heap → (Option Addr → Heap → Option R) → (Int → Int → Heap → Option R) → Option R) (R09_Reader_Align_p3 : Option Addr → Heap → (Option Addr → Bool → Option R) → Option R) : JTab R := tcons 0 (R09_Reader_Align_aa0 R09_Reader_Align_p0 k) <| tcons 1 (R09_Reader_Align_aa1 R09_Reader_Align_p1 k) <| tcons 2 (R09_Reader_Align_aa2 R09_Reader_Align_p2 k) <| tcons 3 (R09_Reader_Align_aa3 R09_Reader_Align_p3 k) <| fun _ _ _ _ => none
def R09_Reader_Align_J (R : Type) (k : Nat) : JTab R := R09_Reader_Align_Jt k (R09_Reader_Align_p0 k) (R09_Reader_Align_p1 k) (R09_Reader_Align_p2 k) (R09_Reader_Align_p3 k)
def R09_Reader_Align_at : AT := (.seq (.reg [0] []) (.seq (.opq 0 [0] ⟨[0], [], [2, 3]⟩ (.seq (.reg [0, 12] []) (.cond (.seq (.reg [2, 3] []) .leaf) .leaf))) (.seq (.opq 1 [0] ⟨[0], [], [2, 3]⟩ (.seq (.reg [0, 40] [[], [0], [0, 1], [0, 1, 2], [0, 1, 2, 3], [0, 1, 2, 3, 4], [0, 1, 2, 3, 4, 5], [0, 1, 2, 3, 4, 5, 6], [0, 1, 2, 3, 4, 5, 6, 7], [0, 1, 2, 3, 4, 5, 6, 7, 8], [0, 1, 2, 3, 4, 5], [0, 1, 2, 3, 4, 5, 10], [0, 1, 2, 3, 4, 5, 10, 11], [0, 1, 2, 3, 4, 5, 10, 11, 12], [0, 1, 2, 3, 4, 5, 10, 11, 12, 13], [0, 1, 2, 3, 4, 5, 6, 7, 8, 9, 10, 11, 12, 13, 14], [0, 1, 2, 3, 4, 5, 6, 7, 8, 9, 10, 11, 12, 13, 14, 15], [0, 1, 2, 3, 4, 5, 6, 7, 8, 9, 10, 11, 12, 13, 14, 15, 16], [0, 1, 2, 3, 4, 5], [0, 1, 2, 3, 4, 5, 18], [0, 1, 2, 3, 4, 5, 18, 19], [0, 1, 2, 3, 4, 5, 18, 19, 20], [0, 1, 2, 3, 4, 5, 18, 19, 20, 21], [0, 1, 2, 3, 4, 5, 18, 19, 20, 21, 22], [0, 1, 2, 3, 4, 5, 18, 19, 20, 21, 22, 23], [0, 1, 2, 3, 4, 5, 6, 7, 8, 9, 10, 11, 12, 13, 14, 15, 16, 17, 18, 19, 20, 21, 22, 23, 24], [0, 1, 2, 3, 4, 5, 6, 7, 8, 9, 10, 11, 12, 13, 14, 15, 16, 17, 18, 19, 20, 21, 22, 23, 24, 25], [0, 1, 2, 3, 4, 5, 6, 7, 8, 9, 10, 11, 12, 13, 14, 15, 16, 17, 18, 19, 20, 21, 22, 23, 24, 25, 26]]) (.cond (.seq (.reg [2, 3] []) .leaf) .leaf))) (.seq (.opq 2 [0] ⟨[0], [], [2, 3]⟩ (.seq (.opq 3 [0] ⟨[0, 66], [], []⟩ (.reg [0, 66] [[], [0], [0, 1], [0, 1, 2], [0, 1, 2, 3], [0, 1, 2, 3, 4], [0, 1, 2, 3, 4, 5], [0, 1, 2, 3, 4, 5, 6], [0, 1, 2, 3, 4, 5, 6, 7], [0, 1, 2, 3, 4, 5, 6, 7, 8], [0, 1, 2, 3, 4, 5, 6, 7, 8, 9], [0, 1, 2, 3, 4, 5, 6, 7, 8, 9, 10], [0, 1, 2, 3, 4, 5, 6, 7, 8, 9, 10, 11], [0, 1, 2, 3, 4, 5, 6, 7, 8, 9, 10, 11, 12], [0, 1, 2, 3, 4, 5, 6, 7, 8, 9, 10, 11, 12, 13], [0, 1, 2, 3, 4, 5, 6, 7, 8, 9, 10, 11, 12, 13, 14], [0, 1, 2, 3, 4, 5, 6, 7, 8, 9, 10, 11, 12, 13, 14, 15], [0, 1, 2, 3, 4, 5, 6, 7, 8, 9, 10, 11, 12], [0, 1, 2, 3, 4, 5, 6, 7, 8, 9, 10, 11, 12, 17], [0, 1, 2, 3, 4, 5, 6, 7, 8, 9, 10, 11, 12, 17, 18], [0, 1, 2, 3, 4, 5, 6, 7, 8, 9, 10, 11, 12, 17, 18, 19], [0, 1, 2, 3, 4, 5, 6, 7, 8, 9, 10, 11, 12, 17, 18, 19, 20], [0, 1, 2, 3, 4, 5, 6, 7, 8, 9, 10, 11, 12, 13, 14, 15, 16, 17, 18, 19, 20, 21], [0, 1, 2, 3, 4, 5, 6, 7, 8, 9, 10, 11, 12, 13, 14, 15, 16, 17, 18, 19, 20, 21, 22], [0, 1, 2, 3, 4, 5, 6, 7, 8, 9, 10, 11, 12, 13, 14, 15, 16, 17, 18, 19, 20, 21, 22, 23], [0, 1, 2, 3, 4, 5, 6, 7, 8, 9, 10, 11, 12, 13, 14, 15, 16, 17, 18, 19, 20, 21, 22, 23, 24]])) (.cond (.seq (.seq (.reg [0, 76] [[], [0], [0, 1], [0, 1, 2], [], [4], [4, 5], [4, 5, 6], [4, 5, 6, 7], [0, 1, 2, 3, 4, 5, 6, 7, 8]]) (.cond (.seq (.reg [2, 3] []) .leaf) .leaf)) (.seq (.seq (.reg [0, 87] [[], [0], [0, 1], [0, 1, 2], [], [4], [4, 5], [4, 5, 6], [0, 1, 2, 3, 4, 5, 6, 7], [0, 1, 2, 3, 4, 5, 6, 7, 8], [0, 1, 2, 3, 4, 5, 6, 7, 8, 9]]) (.cond (.seq (.reg [2, 3] []) .leaf) .leaf)) (.reg [0] []))) .leaf))) (.seq (.reg [0] []) (.seq (.reg [2, 3] []) .leaf))))))
def R09_Reader_Align_i3 : IC := (.reg [⟨some 41, .mov (.t 0), none⟩,
 ⟨some 42, .nilc (.t 41), none⟩,
 ⟨some 43, .fad 3 (.t 42), none⟩,
 ⟨some 44, .ld (.sc (.int .i64)) (.t 43), none⟩,
 ⟨some 45, .cmp .eql (.t 44) (.c (Go.Value.int Go.IntKind.i64 0)), none⟩,
 ⟨some 46, .mov (.t 45), none⟩,
 ⟨some 47, .mov (.t 0), some (46, true)⟩,
 ⟨some 48, .nilc (.t 47), some (46, true)⟩,
 ⟨some 49, .fad 2 (.t 48), some (46, true)⟩,
 ⟨some 50, .ld (.sc (.int .i64)) (.t 49), some (46, true)⟩,
 ⟨some 51, .cmp .gtr (.t 50) (.c (Go.Value.int Go.IntKind.i64 0)), some (46, true)⟩,
 ⟨some 52, .pick (.t 46) (.t 51) (.c (Go.Value.bool false)), none⟩,
 ⟨some 53, .mov (.t 52), none⟩,
 ⟨some 54, .mov (.t 0), some (53, true)⟩,
 ⟨some 55, .nilc (.t 54), some (53, true)⟩,
 ⟨some 56, .fad 1 (.t 55), some (53, true)⟩,
 ⟨some 57, .ld (.sc .slc) (.t 56), some (53, true)⟩,
 ⟨some 58, .mov (.t 0), some (53, true)⟩,
 ⟨some 59, .nilc (.t 58), some (53, true)⟩,
 ⟨some 60, .fad 2 (.t 59), some (53, true)⟩,
 ⟨some 61, .ld (.sc (.int .i64)) (.t 60), some (53, true)⟩,
 ⟨some 62, .bin .sub .i64 (.t 61) (.c (Go.Value.int Go.IntKind.i64 1)), some (53, true)⟩,
 ⟨some 63, .ids 1 (.t 57) (.t 62), some (53, true)⟩,
 ⟨some 64, .ld (.sc (.int .u8)) (.t 63), some (53, true)⟩,
 ⟨some 65, .cmp .eql (.t 64) (.c (Go.Value.int Go.IntKind.u8 255)), some (53, true)⟩,
 ⟨some 66, .pick (.t 53) (.t 65) (.c (Go.Value.bool false)), none⟩] [0, 66])
def R09_Reader_Align_i2 : IC := (.seq (.opq 3 [0] R09_Reader_Align_i3) (.cond (.t 66) (.seq (.seq (.reg [⟨some 67, .mov (.t 0), none⟩,
 ⟨some 68, .nilc (.t 67), none⟩,
 ⟨some 69, .fad 2 (.t 68), none⟩,
 ⟨some 70, .ld (.sc (.int .i64)) (.t 69), none⟩,
 ⟨some 71, .mov (.t 0), none⟩,
 ⟨some 72, .nilc (.t 71), none⟩,
 ⟨some 73, .fad 1 (.t 72), none⟩,
 ⟨some 74, .ld (.sc .slc) (.t 73), none⟩,
 ⟨some 75, .len false (.t 74), none⟩,
 ⟨some 76, .cmp .geq (.t 70) (.t 75), none⟩] [0, 76]) (.cond (.t 76) (.seq (.reg [⟨some 2, .mov (.c (Go.Value.int Go.IntKind.i64 0)), none⟩,
 ⟨some 3, .mov (.c (Go.Value.int Go.IntKind.i64 7)), none⟩] [2, 3]) .ret) .skip)) (.seq (.seq (.reg [⟨some 77, .mov (.t 0), none⟩,
 ⟨some 78, .nilc (.t 77), none⟩,
 ⟨some 79, .fad 1 (.t 78), none⟩,
 ⟨some 80, .ld (.sc .slc) (.t 79), none⟩,
 ⟨some 81, .mov (.t 0), none⟩,
 ⟨some 82, .nilc (.t 81), none⟩,
 ⟨some 83, .fad 2 (.t 82), none⟩,
 ⟨some 84, .ld (.sc (.int .i64)) (.t 83), none⟩,
 ⟨some 85, .ids 1 (.t 80) (.t 84), none⟩,
 ⟨some 86, .ld (.sc (.int .u8)) (.t 85), none⟩,
 ⟨some 87, .cmp .neq (.t 86) (.c (Go.Value.int Go.IntKind.u8 0)), none⟩] [0, 87]) (.cond (.t 87) (.seq (.reg [⟨some 2, .mov (.c (Go.Value.int Go.IntKind.i64 0)), none⟩,
 ⟨some 3, .mov (.c (Go.Value.int Go.IntKind.i64 8)), none⟩] [2, 3]) .ret) .skip)) (.reg [⟨some 88, .mov (.t 0), none⟩,
 ⟨some 89, .nilc (.t 88), none⟩,
 ⟨some 90, .fad 2 (.t 89), none⟩,
 ⟨some 91, .ld (.sc (.int .i64)) (.t 90), none⟩,
 ⟨some 92, .bin .add .i64 (.t 91) (.c (Go.Value.int Go.IntKind.i64 1)), none⟩,
 ⟨some 93, .nilc (.t 88), none⟩,
 ⟨some 94, .fad 2 (.t 93), none⟩,
 ⟨none, .st 1 (.t 94) (.t 92), none⟩] [0]))) .skip))
def R09_Reader_Align_i1 : IC := (.seq (.reg [⟨some 13, .mov (.t 0), none⟩,
 ⟨some 14, .nilc (.t 13), none⟩,
 ⟨some 15, .fad 3 (.t 14), none⟩,
 ⟨some 16, .ld (.sc (.int .i64)) (.t 15), none⟩,
 ⟨some 17, .cmp .gtr (.t 16) (.c (Go.Value.int Go.IntKind.i64 0)), none⟩,
 ⟨some 18, .mov (.t 17), none⟩,
 ⟨some 19, .mov (.t 0), some (18, true)⟩,
 ⟨some 20, .nilc (.t 19), some (18, true)⟩,
 ⟨some 21, .fad 1 (.t 20), some (18, true)⟩,
 ⟨some 22, .ld (.sc .slc) (.t 21), some (18, true)⟩,
 ⟨some 23, .mov (.t 0), some (18, true)⟩,
 ⟨some 24, .nilc (.t 23), some (18, true)⟩,
 ⟨some 25, .fad 2 (.t 24), some (18, true)⟩,
 ⟨some 26, .ld (.sc (.int .i64)) (.t 25), some (18, true)⟩,
 ⟨some 27, .bin .sub .i64 (.t 26) (.c (Go.Value.int Go.IntKind.i64 1)), some (18, true)⟩,
 ⟨some 28, .ids 1 (.t 22) (.t 27), some (18, true)⟩,
 ⟨some 29, .ld (.sc (.int .u8)) (.t 28), some (18, true)⟩,
 ⟨some 30, .cnv .i64 (.t 29), some (18, true)⟩,
 ⟨some 31, .mov (.t 0), some (18, true)⟩,
 ⟨some 32, .nilc (.t 31), some (18, true)⟩,
 ⟨some 33, .fad 3 (.t 32), some (18, true)⟩,
 ⟨some 34, .ld (.sc (.int .i64)) (.t 33), some (18, true)⟩,
 ⟨some 35, .cnv .u64 (.t 34), some (18, true)⟩,
 ⟨some 36, .bin .shl .i64 (.c (Go.Value.int Go.IntKind.i64 1)) (.t 35), some (18, true)⟩,
 ⟨some 37, .bin .sub .i64 (.t 36) (.c (Go.Value.int Go.IntKind.i64 1)), some (18, true)⟩,
 ⟨some 38, .bin .and .i64 (.t 30) (.t 37), some (18, true)⟩,
 ⟨some 39, .cmp .neq (.t 38) (.c (Go.Value.int Go.IntKind.i64 0)), some (18, true)⟩,
 ⟨some 40, .pick (.t 18) (.t 39) (.c (Go.Value.bool false)), none⟩] [0, 40]) (.cond (.t 40) (.seq (.reg [⟨some 2, .mov (.c (Go.Value.int Go.IntKind.i64 0)), none⟩,
 ⟨some 3, .mov (.c (Go.Value.int Go.IntKind.i64 8)), none⟩] [2, 3]) .ret) .skip))
def R09_Reader_Align_i0 : IC := (.seq (.reg [⟨some 4, .mov (.t 0), none⟩,
 ⟨some 5, .eqnil (.t 4) false 0, none⟩,
 ⟨some 6, .mov (.t 5), none⟩,
 ⟨some 7, .mov (.t 0), some (6, false)⟩,
 ⟨some 8, .nilc (.t 7), some (6, false)⟩,
 ⟨some 9, .fad 0 (.t 8), some (6, false)⟩,
 ⟨some 10, .ld (.sc .bool) (.t 9), some (6, false)⟩,
 ⟨some 11, .lnot (.t 10), some (6, false)⟩,
 ⟨some 12, .pick (.t 6) (.c (Go.Value.bool true)) (.t 11), none⟩] [0, 12]) (.cond (.t 12) (.seq (.reg [⟨some 2, .mov (.c (Go.Value.int Go.IntKind.i64 0)), none⟩,
 ⟨some 3, .mov (.c (Go.Value.int Go.IntKind.i64 6)), none⟩] [2, 3]) .ret) .skip))
def R09_Reader_Align_f : IFn := ⟨102, [.t 2, .t 3], (.seq (.reg [⟨some 2, .mov (.c (Go.Value.int Go.IntKind.i64 0)), none⟩,
 ⟨some 3, .mov (.c (Go.Value.int Go.IntKind.i64 0)), none⟩] [0]) (.seq (.opq 0 [0] R09_Reader_Align_i0) (.seq (.opq 1 [0] R09_Reader_Align_i1) (.seq (.opq 2 [0] R09_Reader_Align_i2) (.seq (.reg [⟨some 95, .mov (.t 0), none⟩,
 ⟨some 96, .nilc (.t 95), none⟩,
 ⟨some 97, .fad 3 (.t 96), none⟩,
 ⟨none, .st 1 (.t 97) (.c (Go.Value.int Go.IntKind.i64 0)), none⟩] [0]) (.seq (.reg [⟨some 98, .mov (.t 0), none⟩,
 ⟨some 99, .nilc (.t 98), none⟩,
 ⟨some 100, .fad 2 (.t 99), none⟩,
 ⟨some 101, .ld (.sc (.int .i64)) (.t 100), none⟩,
 ⟨some 2, .mov (.t 101), none⟩,
 ⟨some 3, .mov (.c (Go.Value.int Go.IntKind.i64 0)), none⟩] [2, 3]) .ret))))))⟩
theorem R09_Reader_Align_e3 {R : Type} (R09_Reader_Align_p0 : Option Addr → Heap → (Option Addr → Option R) → (Int → Int → Option R) → Option R) (R09_Reader_Align_p1 : Option Addr → Heap → (Option Addr → Option R) → (Int → Int → Option R) → Option R) (R09_Reader_Align_p2 : Option Addr → Heap → (Option Addr → Heap → Option R) → (Int → Int → Heap → Option R) → Option R) (R09_Reader_Align_p3 : Option Addr → Heap → (Option Addr → Bool → Option R) → Option R) (k : Nat) (p751 : Option Addr) (H : Heap) (K : Xit → Env → Heap → Option R) : evJ (R09_Reader_Align_Ct) (R09_Reader_Align_Jt k R09_Reader_Align_p0 R09_Reader_Align_p1 R09_Reader_Align_p2 R09_Reader_Align_p3) R09_Reader_Align_i3 (List.zip [0] [.pointer p751]) H (fun x e' H' => K x (clean e' ((⟨[0, 66], [], []⟩ : Out).of x)) H') = R09_Reader_Align_p3_b k p751 H (fun p1204 t1205 => K .normal [(0, .pointer p1204), (66, .bool t1205)] H) := by kernel_rfl
theorem R09_Reader_Align_j3 {R : Type} (k : Nat) : JS Try.prog 102 (R09_Reader_Align_a3 R k k) [0] ⟨[0, 66], [], []⟩ (sel [1, 1, 1, 0, 0] (Try.f46.body.getD .skip)) :=
  piece_ok (nt := 102) (c := (sel [1, 1, 1, 0, 0] (Try.f46.body.getD .skip))) (C := R09_Reader_Align_C R k) (an := An) (t := (.reg [0, 66] [[], [0], [0, 1], [0, 1, 2], [0, 1, 2, 3], [0, 1, 2, 3, 4], [0, 1, 2, 3, 4, 5], [0, 1, 2, 3, 4, 5, 6], [0, 1, 2, 3, 4, 5, 6, 7], [0, 1, 2, 3, 4, 5, 6, 7, 8], [0, 1, 2, 3, 4, 5, 6, 7, 8, 9], [0, 1, 2, 3, 4, 5, 6, 7, 8, 9, 10], [0, 1, 2, 3, 4, 5, 6, 7, 8, 9, 10, 11], [0, 1, 2, 3, 4, 5, 6, 7, 8, 9, 10, 11, 12], [0, 1, 2, 3, 4, 5, 6, 7, 8, 9, 10, 11, 12, 13], [0, 1, 2, 3, 4, 5, 6, 7, 8, 9, 10, 11, 12, 13, 14], [0, 1, 2, 3, 4, 5, 6, 7, 8, 9, 10, 11, 12, 13, 14, 15], [0, 1, 2, 3, 4, 5, 6, 7, 8, 9, 10, 11, 12], [0, 1, 2, 3, 4, 5, 6, 7, 8, 9, 10, 11, 12, 17], [0, 1, 2, 3, 4, 5, 6, 7, 8, 9, 10, 11, 12, 17, 18], [0, 1, 2, 3, 4, 5, 6, 7, 8, 9, 10, 11, 12, 17, 18, 19], [0, 1, 2, 3, 4, 5, 6, 7, 8, 9, 10, 11, 12, 17, 18, 19, 20], [0, 1, 2, 3, 4, 5, 6, 7, 8, 9, 10, 11, 12, 13, 14, 15, 16, 17, 18, 19, 20, 21], [0, 1, 2, 3, 4, 5, 6, 7, 8, 9, 10, 11, 12, 13, 14, 15, 16, 17, 18, 19, 20, 21, 22], [0, 1, 2, 3, 4, 5, 6, 7, 8, 9, 10, 11, 12, 13, 14, 15, 16, 17, 18, 19, 20, 21, 22, 23], [0, 1, 2, 3, 4, 5, 6, 7, 8, 9, 10, 11, 12, 13, 14, 15, 16, 17, 18, 19, 20, 21, 22, 23, 24]])) (ic := R09_Reader_Align_i3) (R09_Reader_Align_S R k) (R09_Reader_Align_J R k) (by kernel_rfl) True.intro (R09_Reader_Align_a3 R k k)
    (fun vals H K r h => by
      unfold R09_Reader_Align_a3 R09_Reader_Align_aa3 at h
      split at h <;> first | (cases h; done) | exact Eq.trans (R09_Reader_Align_e3 (R09_Reader_Align_p0 k) (R09_Reader_Align_p1 k) (R09_Reader_Align_p2 k) (R09_Reader_Align_p3 k) k _ H K) h)
theorem R09_Reader_Align_e2 {R : Type} (R09_Reader_Align_p0 : Option Addr → Heap → (Option Addr → Option R) → (Int → Int → Option R) → Option R) (R09_Reader_Align_p1 : Option Addr → Heap → (Option Addr → Option R) → (Int → Int → Option R) → Option R) (R09_Reader_Align_p2 : Option Addr → Heap → (Option Addr → Heap → Option R) → (Int → Int → Heap → Option R) → Option R) (R09_Reader_Align_p3 : Option Addr → Heap → (Option Addr → Bool → Option R) → Option R) (k : Nat) (p750 : Option Addr) (H : Heap) (K : Xit → Env → Heap → Option R) : evJ (R09_Reader_Align_Ct) (R09_Reader_Align_Jt k R09_Reader_Align_p0 R09_Reader_Align_p1 R09_Reader_Align_p2 R09_Reader_Align_p3) R09_Reader_Align_i2 (List.zip [0] [.pointer p750]) H (fun x e' H' => K x (clean e' ((⟨[0], [], [2, 3]⟩ : Out).of x)) H') = R09_Reader_Align_p2_b R09_Reader_Align_p3 k p750 H (fun p1201 H => K .normal [(0, .pointer p1201)] H) (fun n1202 n1203 H => K .ret [(2, .int .i64 n1202), (3, .int .i64 n1203)] H) := by kernel_rfl
theorem R09_Reader_Align_j2 {R : Type} (k : Nat) : JS Try.prog 102 (R09_Reader_Align_a2 R k k) [0] ⟨[0], [], [2, 3]⟩ (sel [1, 1, 1, 0] (Try.f46.body.getD .skip)) :=
  piece_ok (nt := 102) (c := (sel [1, 1, 1, 0] (Try.f46.body.getD .skip))) (C := R09_Reader_Align_C R k) (an := An) (t := (.seq (.opq 3 [0] ⟨[0, 66], [], []⟩ (.reg [0, 66] [[], [0], [0, 1], [0, 1, 2], [0, 1, 2, 3], [0, 1, 2, 3, 4], [0, 1, 2, 3, 4, 5], [0, 1, 2, 3, 4, 5, 6], [0, 1, 2, 3, 4, 5, 6, 7], [0, 1, 2, 3, 4, 5, 6, 7, 8], [0, 1, 2, 3, 4, 5, 6, 7, 8, 9], [0, 1, 2, 3, 4, 5, 6, 7, 8, 9, 10], [0, 1, 2, 3, 4, 5, 6, 7, 8, 9, 10, 11], [0, 1, 2, 3, 4, 5, 6, 7, 8, 9, 10, 11, 12], [0, 1, 2, 3, 4, 5, 6, 7, 8, 9, 10, 11, 12, 13], [0, 1, 2, 3, 4, 5, 6, 7, 8, 9, 10, 11, 12, 13, 14], [0, 1, 2, 3, 4, 5, 6, 7, 8, 9, 10, 11, 12, 13, 14, 15], [0, 1, 2, 3, 4, 5, 6, 7, 8, 9, 10, 11, 12], [0, 1, 2, 3, 4, 5, 6, 7, 8, 9, 10, 11, 12, 17], [0, 1, 2, 3, 4, 5, 6, 7, 8, 9, 10, 11, 12, 17, 18], [0, 1, 2, 3, 4, 5, 6, 7, 8, 9, 10, 11, 12, 17, 18, 19], [0, 1, 2, 3, 4, 5, 6, 7, 8, 9, 10, 11, 12, 17, 18, 19, 20], [0, 1, 2, 3, 4, 5, 6, 7, 8, 9, 10, 11, 12, 13, 14, 15, 16, 17, 18, 19, 20, 21], [0, 1, 2, 3, 4, 5, 6, 7, 8, 9, 10, 11, 12, 13, 14, 15, 16, 17, 18, 19, 20, 21, 22], [0, 1, 2, 3, 4, 5, 6, 7, 8, 9, 10, 11, 12, 13, 14, 15, 16, 17, 18, 19, 20, 21, 22, 23], [0, 1, 2, 3, 4, 5, 6, 7, 8, 9, 10, 11, 12, 13, 14, 15, 16, 17, 18, 19, 20, 21, 22, 23, 24]])) (.cond (.seq (.seq (.reg [0, 76] [[], [0], [0, 1], [0, 1, 2], [], [4], [4, 5], [4, 5, 6], [4, 5, 6, 7], [0, 1, 2, 3, 4, 5, 6, 7, 8]]) (.cond (.seq (.reg [2, 3] []) .leaf) .leaf)) (.seq (.seq (.reg [0, 87] [[], [0], [0, 1], [0, 1, 2], [], [4], [4, 5], [4, 5, 6], [0, 1, 2, 3, 4, 5, 6, 7], [0, 1, 2, 3, 4, 5, 6, 7, 8], [0, 1, 2, 3, 4, 5, 6, 7, 8, 9]]) (.cond (.seq (.reg [2, 3] []) .leaf) .leaf)) (.reg [0] []))) .leaf))) (ic := R09_Reader_Align_i2) (R09_Reader_Align_S R k) (R09_Reader_Align_J R k) (by kernel_rfl) (And.intro (R09_Reader_Align_j3 k) (And.intro (And.intro (And.intro True.intro (And.intro (And.intro True.intro True.intro) True.intro)) (And.intro (And.intro True.intro (And.intro (And.intro True.intro True.intro) True.intro)) True.intro)) True.intro)) (R09_Reader_Align_a2 R k k)
    (fun vals H K r h => by
      unfold R09_Reader_Align_a2 R09_Reader_Align_aa2 at h
      split at h <;> first | (cases h; done) | exact Eq.trans (R09_Reader_Align_e2 (R09_Reader_Align_p0 k) (R09_Reader_Align_p1 k) (R09_Reader_Align_p2 k) (R09_Reader_Align_p3 k) k _ H K) h)
theorem R09_Reader_Align_e1 {R : Type} (R09_Reader_Align_p0 : Option Addr → Heap → (Option Addr → Option R) → (Int → Int → Option R) → Option R) (R09_Reader_Align_p1 : Option Addr → Heap → (Option Addr → Option R) → (Int → Int → Option R) → Option R) (R09_Reader_Align_p2 : Option Addr → Heap → (Option Addr → Heap → Option R) → (Int → Int → Heap → Option R) → Option R) (R09_Reader_Align_p3 : Option Addr → Heap → (Option Addr → Bool → Option R) → Option R) (k : Nat) (p727 : Option Addr) (H : Heap) (K : Xit → Env → Heap → Option R) : evJ (R09_Reader_Align_Ct) (R09_Reader_Align_Jt k R09_Reader_Align_p0 R09_Reader_Align_p1 R09_Reader_Align_p2 R09_Reader_Align_p3) R09_Reader_Align_i1 (List.zip [0] [.pointer p727]) H (fun x e' H' => K x (clean e' ((⟨[0], [], [2, 3]⟩ : Out).of x)) H') = R09_Reader_Align_p1_b k p727 H (fun p1198 => K .normal [(0, .pointer p1198)] H) (fun n1199 n1200 => K .ret [(2, .int .i64 n1199), (3, .int .i64 n1200)] H) := by kernel_rfl
theorem R09_Reader_Align_j1 {R : Type} (k : Nat) : JS Try.prog 102 (R09_Reader_Align_a1 R k k) [0] ⟨[0], [], [2, 3]⟩ (sel [1, 1, 0] (Try.f46.body.getD .skip)) :=
  piece_ok (nt := 102) (c := (sel [1, 1, 0] (Try.f46.body.getD .skip))) (C := R09_Reader_Align_C R k) (an := An) (t := (.seq (.reg [0, 40] [[], [0], [0, 1], [0, 1, 2], [0, 1, 2, 3], [0, 1, 2, 3, 4], [0, 1, 2, 3, 4, 5], [0, 1, 2, 3, 4, 5, 6], [0, 1, 2, 3, 4, 5, 6, 7], [0, 1, 2, 3, 4, 5, 6, 7, 8], [0, 1, 2, 3, 4, 5], [0, 1, 2, 3, 4, 5, 10], [0, 1, 2, 3, 4, 5, 10, 11], [0, 1, 2, 3, 4, 5, 10, 11, 12], [0, 1, 2, 3, 4, 5, 10, 11, 12, 13], [0, 1, 2, 3, 4, 5, 6, 7, 8, 9, 10, 11, 12, 13, 14], [0, 1, 2, 3, 4, 5, 6, 7, 8, 9, 10, 11, 12, 13, 14, 15], [0, 1, 2, 3, 4, 5, 6, 7, 8, 9, 10, 11, 12, 13, 14, 15, 16], [0, 1, 2, 3, 4, 5], [0, 1, 2, 3, 4, 5, 18], [0, 1, 2, 3, 4, 5, 18, 19], [0, 1, 2, 3, 4, 5, 18, 19, 20], [0, 1, 2, 3, 4, 5, 18, 19, 20, 21], [0, 1, 2, 3, 4, 5, 18, 19, 20, 21, 22], [0, 1, 2, 3, 4, 5, 18, 19, 20, 21, 22, 23], [0, 1, 2, 3, 4, 5, 6, 7, 8, 9, 10, 11, 12, 13, 14, 15, 16, 17, 18, 19, 20, 21, 22, 23, 24], [0, 1, 2, 3, 4, 5, 6, 7, 8, 9, 10, 11, 12, 13, 14, 15, 16, 17, 18, 19, 20, 21, 22, 23, 24, 25], [0, 1, 2, 3, 4, 5, 6, 7, 8, 9, 10, 11, 12, 13, 14, 15, 16, 17, 18, 19, 20, 21, 22, 23, 24, 25, 26]]) (.cond (.seq (.reg [2, 3] []) .leaf) .leaf))) (ic := R09_Reader_Align_i1) (R09_Reader_Align_S R k) (R09_Reader_Align_J R k) (by kernel_rfl) (And.intro True.intro (And.intro (And.intro True.intro True.intro) True.intro)) (R09_Reader_Align_a1 R k k)
    (fun vals H K r h => by
      unfold R09_Reader_Align_a1 R09_Reader_Align_aa1 at h
      split at h <;> first | (cases h; done) | exact Eq.trans (R09_Reader_Align_e1 (R09_Reader_Align_p0 k) (R09_Reader_Align_p1 k) (R09_Reader_Align_p2 k) (R09_Reader_Align_p3 k) k _ H K) h)
theorem R09_Reader_Align_e0 {R : Type} (R09_Reader_Align_p0 : Option Addr → Heap → (Option Addr → Option R) → (Int → Int → Option R) → Option R) (R09_Reader_Align_p1 : Option Addr → Heap → (Option Addr → Option R) → (Int → Int → Option R) → Option R) (R09_Reader_Align_p2 : Option Addr → Heap → (Option Addr → Heap → Option R) → (Int → Int → Heap → Option R) → Option R) (R09_Reader_Align_p3 : Option Addr → Heap → (Option Addr → Bool → Option R) → Option R) (k : Nat) (p719 : Option Addr) (H : Heap) (K : Xit → Env → Heap → Option R) : evJ (R09_Reader_Align_Ct) (R09_Reader_Align_Jt k R09_Reader_Align_p0 R09_Reader_Align_p1 R09_Reader_Align_p2 R09_Reader_Align_p3) R09_Reader_Align_i0 (List.zip [0] [.pointer p719]) H (fun x e' H' => K x (clean e' ((⟨[0], [], [2, 3]⟩ : Out).of x)) H') = R09_Reader_Align_p0_b k p719 H (fun p1195 => K .normal [(0, .pointer p1195)] H) (fun n1196 n1197 => K .ret [(2, .int .i64 n1196), (3, .int .i64 n1197)] H) := by kernel_rfl
theorem R09_Reader_Align_j0 {R : Type} (k : Nat) : JS Try.prog 102 (R09_Reader_Align_a0 R k k) [0] ⟨[0], [], [2, 3]⟩ (sel [1, 0] (Try.f46.body.getD .skip)) :=
  piece_ok (nt := 102) (c := (sel [1, 0] (Try.f46.body.getD .skip))) (C := R09_Reader_Align_C R k) (an := An) (t := (.seq (.reg [0, 12] []) (.cond (.seq (.reg [2, 3] []) .leaf) .leaf))) (ic := R09_Reader_Align_i0) (R09_Reader_Align_S R k) (R09_Reader_Align_J R k) (by kernel_rfl) (And.intro True.intro (And.intro (And.intro True.intro True.intro) True.intro)) (R09_Reader_Align_a0 R k k)
    (fun vals H K r h => by
      unfold R09_Reader_Align_a0 R09_Reader_Align_aa0 at h
      split at h <;> first | (cases h; done) | exact Eq.trans (R09_Reader_Align_e0 (R09_Reader_Align_p0 k) (R09_Reader_Align_p1 k) (R09_Reader_Align_p2 k) (R09_Reader_Align_p3 k) k _ H K) h)
def R09_Reader_Align_ca {R : Type} (f : Option Addr → Heap → (Int → Int → Heap → Option R) → Option R) (args : List Value) (H : Heap) (K : Value → Heap → Option R) : Option R :=
  match args with
  | [.pointer p718] => f p718 H (fun n1206 n1207 H => K (.tuple ⟨[.int .i64 n1206, .int .i64 n1207]⟩) H)
  | _ => none
def R09_Reader_Align_c (R : Type) (k : Nat) (args : List Value) (H : Heap) (K : Value → Heap → Option R) : Option R := R09_Reader_Align_ca (R09_Reader_Align k) args H K
theorem R09_Reader_Align_e {R : Type} (R09_Reader_Align_p0 : Option Addr → Heap → (Option Addr → Option R) → (Int → Int → Option R) → Option R) (R09_Reader_Align_p1 : Option Addr → Heap → (Option Addr → Option R) → (Int → Int → Option R) → Option R) (R09_Reader_Align_p2 : Option Addr → Heap → (Option Addr → Heap → Option R) → (Int → Int → Heap → Option R) → Option R) (R09_Reader_Align_p3 : Option Addr → Heap → (Option Addr → Bool → Option R) → Option R) (k : Nat) (p718 : Option Addr) (H : Heap) (K : Value → Heap → Option R) : evF (R09_Reader_Align_Ct) (R09_Reader_Align_Jt k R09_Reader_Align_p0 R09_Reader_Align_p1 R09_Reader_Align_p2 R09_Reader_Align_p3) R09_Reader_Align_f [.pointer p718] H K = R09_Reader_Align_b R09_Reader_Align_p0 R09_Reader_Align_p1 R09_Reader_Align_p2 k p718 H (fun n1206 n1207 H => K (.tuple ⟨[.int .i64 n1206, .int .i64 n1207]⟩) H) := by kernel_rfl
theorem R09_Reader_Align_cs (R : Type) (k : Nat) : ∀ args H K r, R09_Reader_Align_c R k args H K = some r → ∃ v H', Tri Try.prog 46 args H v H' ∧ K v H' = some r := by
  intro args H K r h
  unfold R09_Reader_Align_c R09_Reader_Align_ca at h
  split at h
  · exact evF_ok (C := R09_Reader_Align_C R k) (an := An) (t := R09_Reader_Align_at) (fn := Try.f46) (c := (Try.f46.body.getD .skip)) (ifn := R09_Reader_Align_f) (R09_Reader_Align_S R k) (R09_Reader_Align_J R k) Try.func46 (by kernel_rfl) (by kernel_rfl) (And.intro True.intro (And.intro (R09_Reader_Align_j0 k) (And.intro (R09_Reader_Align_j1 k) (And.intro (R09_Reader_Align_j2 k) (And.intro True.intro (And.intro True.intro True.intro)))))) rfl (Eq.trans (R09_Reader_Align_e (R09_Reader_Align_p0 k) (R09_Reader_Align_p1 k) (R09_Reader_Align_p2 k) (R09_Reader_Align_p3 k) k _ H K) h)
  · cases h
/-! ### L_readRef: function 28 -/
def L_readRef_b {R : Type} (R09_Reader_Get : Option Addr → Heap → (Int → Int → Heap → Option R) → Option R) (R09_Reader_Bits : Option Addr → Int → Heap → (Int → Int → Heap → Option R) → Option R) (R09_Reader_Gamma : Option Addr → Heap → (Int → Int → Heap → Option R) → Option R) (R09_Reader_Unary : Option Addr → Int → Heap → (Int → Int → Heap → Option R) → Option R) (R09_Reader_Align : Option Addr → Heap → (Int → Int → Heap → Option R) → Option R) (k : Nat) (p511 : Option Addr) (n512 : Int) (n513 : Int) (n514 : Int) (H : Heap) (K : Int → Int → Heap → Option R) : Option R :=
hal H [.int .i64 n512, .int .i64 n513, .int .i64 n514] fun p515 H516 =>
hfad 0 p515 fun p517 =>
ldI .i64 H516 p517 fun n518 =>
bif (n518 == 0) then (R09_Reader_Get p511 H516 fun n519 n520 H521 =>
K n519 n520 H521)
 else (bif (n518 == 1) then (hfad 2 p515 fun p522 =>
ldI .i64 H516 p522 fun n523 =>
R09_Reader_Bits p511 n523 H516 fun n524 n525 H526 =>
K n524 n525 H526)
 else (bif (n518 == 2) then (R09_Reader_Gamma p511 H516 fun n527 n528 H529 =>
K n527 n528 H529)
 else (bif (n518 == 3) then (hfad 2 p515 fun p530 =>
ldI .i64 H516 p530 fun n531 =>
R09_Reader_Unary p511 n531 H516 fun n532 n533 H534 =>
K n532 n533 H534)
 else (bif (n518 == 4) then (R09_Reader_Align p511 H516 fun n535 n536 H537 =>
K n535 n536 H537)
 else (K 0 0 H516)))))

def L_readRef {R : Type} (k : Nat) (p511 : Option Addr) (n512 : Int) (n513 : Int) (n514 : Int) (H : Heap) (K : Int → Int → Heap → Option R) : Option R := L_readRef_b (R09_Reader_Get k) (R09_Reader_Bits k) (R09_Reader_Gamma k) (R09_Reader_Unary k) (R09_Reader_Align k) k p511 n512 n513 n514 H K

def L_readRef_Ct {R : Type} (R09_Reader_Get : Option Addr → Heap → (Int → Int → Heap → Option R) → Option R) (R09_Reader_Bits : Option Addr → Int → Heap → (Int → Int → Heap → Option R) → Option R) (R09_Reader_Gamma : Option Addr → Heap → (Int → Int → Heap → Option R) → Option R) (R09_Reader_Unary : Option Addr → Int → Heap → (Int → Int → Heap → Option R) → Option R) (R09_Reader_Align : Option Addr → Heap → (Int → Int → Heap → Option R) → Option R) : Tab R := tcons 26 (R09_Reader_Get_ca R09_Reader_Get) <| tcons 43 (R09_Reader_Bits_ca R09_Reader_Bits) <| tcons 44 (R09_Reader_Gamma_ca R09_Reader_Gamma) <| tcons 45 (R09_Reader_Unary_ca R09_Reader_Unary) <| tcons 46 (R09_Reader_Align_ca R09_Reader_Align) <| fun _ _ _ _ => none
def L_readRef_C (R : Type) (k : Nat) : Tab R := L_readRef_Ct (R09_Reader_Get k) (R09_Reader_Bits k) (R09_Reader_Gamma k) (R09_Reader_Unary k) (R09_Reader_Align k)
theorem L_readRef_S (R : Type) (k : Nat) : CSound Try.prog (L_readRef_C R k) := csound_cons (R09_Reader_Get_cs R k) <| csound_cons (R09_Reader_Bits_cs R k) <| csound_cons (R09_Reader_Gamma_cs R k) <| csound_cons (R09_Reader_Unary_cs R k) <| csound_cons (R09_Reader_Align_cs R k) <| csound_nil
def L_readRef_Jt {R : Type} (k : Nat) : JTab R := fun _ _ _ _ => none
def L_readRef_J (R : Type) (k : Nat) : JTab R := L_readRef_Jt k
def L_readRef_at : AT := (.seq (.reg [0, 3] []) (.seq (.seq (.reg [0, 3, 7] []) (.node (.seq (.reg [0, 3, 7, 8] []) (.cond (.seq (.reg [4, 5] []) .leaf) (.seq (.reg [0, 3, 7, 14] []) (.cond (.seq (.reg [4, 5] []) .leaf) (.seq (.reg [0, 3, 7, 22] []) (.cond (.seq (.reg [4, 5] []) .leaf) (.seq (.reg [0, 3, 7, 28] []) (.cond (.seq (.reg [4, 5] []) .leaf) (.seq (.reg [0, 36] []) (.cond (.seq (.reg [4, 5] []) .leaf) .leaf)))))))))))) (.seq (.reg [4, 5] []) .leaf)))
def L_readRef_f : IFn := ⟨42, [.t 4, .t 5], (.seq (.reg [⟨some 3, .box (.t 1), none⟩,
 ⟨some 4, .mov (.c (Go.Value.int Go.IntKind.i64 0)), none⟩,
 ⟨some 5, .mov (.c (Go.Value.int Go.IntKind.i64 0)), none⟩] [0, 3]) (.seq (.seq (.reg [⟨some 6, .fad 0 (.t 3), none⟩,
 ⟨some 7, .ld (.sc (.int .i64)) (.t 6), none⟩] [0, 3, 7]) (.block 0 (.seq (.reg [⟨some 9, .cmp .eql (.t 7) (.c (Go.Value.int Go.IntKind.i64 0)), none⟩,
 ⟨some 8, .mov (.t 9), none⟩] [0, 3, 7, 8]) (.cond (.t 8) (.seq (.reg [⟨some 10, .mov (.t 0), none⟩,
 ⟨some 11, .call 26 [(.t 10)] (.tup [(.sc (.int .i64)), (.sc (.int .i64))]), none⟩,
 ⟨some 12, .ext 0 (.t 11), none⟩,
 ⟨some 13, .ext 1 (.t 11), none⟩,
 ⟨some 4, .mov (.t 12), none⟩,
 ⟨some 5, .mov (.t 13), none⟩] [4, 5]) .ret) (.seq (.reg [⟨some 15, .cmp .eql (.t 7) (.c (Go.Value.int Go.IntKind.i64 1)), none⟩,
 ⟨some 14, .mov (.t 15), none⟩] [0, 3, 7, 14]) (.cond (.t 14) (.seq (.reg [⟨some 16, .mov (.t 0), none⟩,
 ⟨some 17, .fad 2 (.t 3), none⟩,
 ⟨some 18, .ld (.sc (.int .i64)) (.t 17), none⟩,
 ⟨some 19, .call 43 [(.t 16), (.t 18)] (.tup [(.sc (.int .i64)), (.sc (.int .i64))]), none⟩,
 ⟨some 20, .ext 0 (.t 19), none⟩,
 ⟨some 21, .ext 1 (.t 19), none⟩,
 ⟨some 4, .mov (.t 20), none⟩,
 ⟨some 5, .mov (.t 21), none⟩] [4, 5]) .ret) (.seq (.reg [⟨some 23, .cmp .eql (.t 7) (.c (Go.Value.int Go.IntKind.i64 2)), none⟩,
 ⟨some 22, .mov (.t 23), none⟩] [0, 3, 7, 22]) (.cond (.t 22) (.seq (.reg [⟨some 24, .mov (.t 0), none⟩,
 ⟨some 25, .call 44 [(.t 24)] (.tup [(.sc (.int .i64)), (.sc (.int .i64))]), none⟩,
 ⟨some 26, .ext 0 (.t 25), none⟩,
 ⟨some 27, .ext 1 (.t 25), none⟩,
 ⟨some 4, .mov (.t 26), none⟩,
 ⟨some 5, .mov (.t 27), none⟩] [4, 5]) .ret) (.seq (.reg [⟨some 29, .cmp .eql (.t 7) (.c (Go.Value.int Go.IntKind.i64 3)), none⟩,
 ⟨some 28, .mov (.t 29), none⟩] [0, 3, 7, 28]) (.cond (.t 28) (.seq (.reg [⟨some 30, .mov (.t 0), none⟩,
 ⟨some 31, .fad 2 (.t 3), none⟩,
 ⟨some 32, .ld (.sc (.int .i64)) (.t 31), none⟩,
 ⟨some 33, .call 45 [(.t 30), (.t 32)] (.tup [(.sc (.int .i64)), (.sc (.int .i64))]), none⟩,
 ⟨some 34, .ext 0 (.t 33), none⟩,
 ⟨some 35, .ext 1 (.t 33), none⟩,
 ⟨some 4, .mov (.t 34), none⟩,
 ⟨some 5, .mov (.t 35), none⟩] [4, 5]) .ret) (.seq (.reg [⟨some 37, .cmp .eql (.t 7) (.c (Go.Value.int Go.IntKind.i64 4)), none⟩,
 ⟨some 36, .mov (.t 37), none⟩] [0, 36]) (.cond (.t 36) (.seq (.reg [⟨some 38, .mov (.t 0), none⟩,
 ⟨some 39, .call 46 [(.t 38)] (.tup [(.sc (.int .i64)), (.sc (.int .i64))]), none⟩,
 ⟨some 40, .ext 0 (.t 39), none⟩,
 ⟨some 41, .ext 1 (.t 39), none⟩,
 ⟨some 4, .mov (.t 40), none⟩,
 ⟨some 5, .mov (.t 41), none⟩] [4, 5]) .ret) .skip)))))))))))) (.seq (.reg [⟨some 4, .mov (.c (Go.Value.int Go.IntKind.i64 0)), none⟩,
 ⟨some 5, .mov (.c (Go.Value.int Go.IntKind.i64 0)), none⟩] [4, 5]) .ret)))⟩
def L_readRef_ca {R : Type} (f : Option Addr → Int → Int → Int → Heap → (Int → Int → Heap → Option R) → Option R) (args : List Value) (H : Heap) (K : Value → Heap → Option R) : Option R :=
  match args with
  | [.pointer p511, .agg ⟨[.int .i64 n512, .int .i64 n513, .int .i64 n514]⟩] => f p511 n512 n513 n514 H (fun n1208 n1209 H => K (.tuple ⟨[.int .i64 n1208, .int .i64 n1209]⟩) H)
  | _ => none
def L_readRef_c (R : Type) (k : Nat) (args : List Value) (H : Heap) (K : Value → Heap → Option R) : Option R := L_readRef_ca (L_readRef k) args H K
theorem L_readRef_e {R : Type} (R09_Reader_Get : Option Addr → Heap → (Int → Int → Heap → Option R) → Option R) (R09_Reader_Bits : Option Addr → Int → Heap → (Int → Int → Heap → Option R) → Option R) (R09_Reader_Gamma : Option Addr → Heap → (Int → Int → Heap → Option R) → Option R) (R09_Reader_Unary : Option Addr → Int → Heap → (Int → Int → Heap → Option R) → Option R) (R09_Reader_Align : Option Addr → Heap → (Int → Int → Heap → Option R) → Option R) (k : Nat) (p511 : Option Addr) (n512 : Int) (n513 : Int) (n514 : Int) (H : Heap) (K : Value → Heap → Option R) : evF (L_readRef_Ct R09_Reader_Get R09_Reader_Bits R09_Reader_Gamma R09_Reader_Unary R09_Reader_Align) (L_readRef_Jt k) L_readRef_f [.pointer p511, .agg ⟨[.int .i64 n512, .int .i64 n513, .int .i64 n514]⟩] H K = L_readRef_b R09_Reader_Get R09_Reader_Bits R09_Reader_Gamma R09_Reader_Unary R09_Reader_Align k p511 n512 n513 n514 H (fun n1208 n1209 H => K (.tuple ⟨[.int .i64 n1208, .int .i64 n1209]⟩) H) := by kernel_rfl
theorem L_readRef_cs (R : Type) (k : Nat) : ∀ args H K r, L_readRef_c R k args H K = some r → ∃ v H', Tri Try.prog 28 args H v H' ∧ K v H' = some r := by
  intro args H K r h
  unfold L_readRef_c L_readRef_ca at h
  split at h
  · exact evF_ok (C := L_readRef_C R k) (an := An) (t := L_readRef_at) (fn := Try.f28) (c := (Try.f28.body.getD .skip)) (ifn := L_readRef_f) (L_readRef_S R k) (L_readRef_J R k) Try.func28 (by kernel_rfl) (by kernel_rfl) (And.intro True.intro (And.intro (And.intro True.intro (And.intro True.intro (And.intro (And.intro True.intro True.intro) (And.intro True.intro (And.intro (And.intro True.intro True.intro) (And.intro True.intro (And.intro (And.intro True.intro True.intro) (And.intro True.intro (And.intro (And.intro True.intro True.intro) (And.intro True.intro (And.intro (And.intro True.intro True.intro) True.intro))))))))))) (And.intro True.intro True.intro))) rfl (Eq.trans (L_readRef_e (R09_Reader_Get k) (R09_Reader_Bits k) (R09_Reader_Gamma k) (R09_Reader_Unary k) (R09_Reader_Align k) k _ _ _ _ H K) h)
  · cases h
/-! ### L_BitioReads: function 7 -/
def L_BitioReads_p0_b {R : Type} (k : Nat) (q427 : Option Addr) (l428 : Nat) (c429 : Nat) (q430 : Option Addr) (l431 : Nat) (c432 : Nat) (KN : Option Addr → Nat → Nat → Option Addr → Nat → Nat → Bool → Option R) : Option R :=
bif decide (((l428 : Nat) : Int) > 3000) then (KN q427 l428 c429 q430 l431 c432 true)
 else (KN q427 l428 c429 q430 l431 c432 (decide (((l431 : Nat) : Int) > 200)))
def L_BitioReads_p0 {R : Type} (k : Nat) (q427 : Option Addr) (l428 : Nat) (c429 : Nat) (q430 : Option Addr) (l431 : Nat) (c432 : Nat) (KN : Option Addr → Nat → Nat → Option Addr → Nat → Nat → Bool → Option R) : Option R := L_BitioReads_p0_b k q427 l428 c429 q430 l431 c432 KN

def L_BitioReads_p2_b {R : Type} (L_read : Option Addr → Int → Int → Int → Heap → (Int → Int → Heap → Option R) → Option R) (L_readRef : Option Addr → Int → Int → Int → Heap → (Int → Int → Heap → Option R) → Option R) (k : Nat) (p459 : Option Addr) (p460 : Option Addr) (q461 : Option Addr) (l462 : Nat) (c463 : Nat) (n464 : Int) (n465 : Int) (H : Heap) (KN : Option Addr → Option Addr → Option Addr → Nat → Nat → Int → Int → Heap → Option R) (KR : Bool → Heap → Option R) : Option R :=
hidx q461 l462 n465 3 fun p466 =>
ldI .i64 H (pad p466 0) fun n467 =>
ldI .i64 H (pad p466 1) fun n468 =>
ldI .i64 H (pad p466 2) fun n469 =>
hal H [.int .i64 0, .int .i64 0, .int .i64 0] fun p470 H471 =>
hst H471 p470 [.int .i64 n467, .int .i64 n468, .int .i64 n469] fun H472 =>
ldI .i64 H472 (pad p470 0) fun n473 =>
ldI .i64 H472 (pad p470 1) fun n474 =>
ldI .i64 H472 (pad p470 2) fun n475 =>
L_read p459 n473 n474 n475 H472 fun n476 n477 H478 =>
ldI .i64 H478 (pad p470 0) fun n479 =>
ldI .i64 H478 (pad p470 1) fun n480 =>
ldI .i64 H478 (pad p470 2) fun n481 =>
L_readRef p460 n479 n480 n481 H478 fun n482 n483 H484 =>
bif (n476 != n482) then (KR false H484)
 else (bif (n477 != n483) then (KR false H484)
 else (KN p459 p460 q461 l462 c463 n464 n465 H484))
def L_BitioReads_p2 {R : Type} (k : Nat) (p459 : Option Addr) (p460 : Option Addr) (q461 : Option Addr) (l462 : Nat) (c463 : Nat) (n464 : Int) (n465 : Int) (H : Heap) (KN : Option Addr → Option Addr → Option Addr → Nat → Nat → Int → Int → Heap → Option R) (KR : Bool → Heap → Option R) : Option R := L_BitioReads_p2_b (L_read k) (L_readRef k) k p459 p460 q461 l462 c463 n464 n465 H KN KR

def L_BitioReads_l1_b {R : Type} (L_BitioReads_p2 : Option Addr → Option Addr → Option Addr → Nat → Nat → Int → Int → Heap → (Option Addr → Option Addr → Option Addr → Nat → Nat → Int → Int → Heap → Option R) → (Bool → Heap → Option R) → Option R) (rec : Option Addr → Option Addr → Option Addr → Nat → Nat → Int → Int → Heap → Option R) (KE0 : Heap → Option R) (KR : Bool → Heap → Option R) (k : Nat) (p452 : Option Addr) (p453 : Option Addr) (q454 : Option Addr) (l455 : Nat) (c456 : Nat) (n457 : Int) (n458 : Int) (H : Heap) : Option R :=
bif decide (n458 < n457) then (L_BitioReads_p2 p452 p453 q454 l455 c456 n457 n458 H (fun p493 p494 q495 l496 c497 n498 n499 H500 =>
rec p493 p494 q495 l496 c497 n498 (IntKind.wrap .i64 (n499 + 1)) H500) (fun t501 H502 =>
KR t501 H502))
 else (KE0 H)
def L_BitioReads_l1 {R : Type} (k : Nat) (KE0 : Heap → Option R) (KR : Bool → Heap → Option R) : Nat → Option Addr → Option Addr → Option Addr → Nat → Nat → Int → Int → Heap → Option R
  | 0, _, _, _, _, _, _, _, _ => none
  | n + 1, p452, p453, q454, l455, c456, n457, n458, H => L_BitioReads_l1_b (L_BitioReads_p2 k) (L_BitioReads_l1 k KE0 KR n) KE0 KR k p452 p453 q454 l455 c456 n457 n458 H

def L_BitioReads_b {R : Type} (L_BitioReads_p0 : Option Addr → Nat → Nat → Option Addr → Nat → Nat → (Option Addr → Nat → Nat → Option Addr → Nat → Nat → Bool → Option R) → Option R) (L_exampleHoldsq : (Bool → Option R) → Option R) (bitio_NewReader : Option Addr → Nat → Nat → Heap → (Option Addr → Heap → Option R) → Option R) (R09_NewReader : Option Addr → Nat → Nat → Heap → (Option Addr → Heap → Option R) → Option R) (L_BitioReads_l1 : (Heap → Option R) → (Bool → Heap → Option R) → Nat → Option Addr → Option Addr → Option Addr → Nat → Nat → Int → Int → Heap → Option R) (k : Nat) (q421 : Option Addr) (l422 : Nat) (c423 : Nat) (q424 : Option Addr) (l425 : Nat) (c426 : Nat) (H : Heap) (K : Bool → Heap → Option R) : Option R :=
L_BitioReads_p0 q421 l422 c423 q424 l425 c426 (fun q440 l441 c442 q443 l444 c445 t446 =>
bif t446 then (L_exampleHoldsq fun t447 =>
K t447 H)
 else (bitio_NewReader q440 l441 c442 H fun p448 H449 =>
R09_NewReader q440 l441 c442 H449 fun p450 H451 =>
L_BitioReads_l1 (fun H504 =>
L_exampleHoldsq fun t505 =>
K t505 H504) (fun t506 H507 =>
K t506 H507) k p448 p450 q443 l444 c445 ((l444 : Nat) : Int) 0 H451))

def L_BitioReads {R : Type} (k : Nat) (q421 : Option Addr) (l422 : Nat) (c423 : Nat) (q424 : Option Addr) (l425 : Nat) (c426 : Nat) (H : Heap) (K : Bool → Heap → Option R) : Option R := L_BitioReads_b (L_BitioReads_p0 k) L_exampleHoldsq bitio_NewReader R09_NewReader (L_BitioReads_l1 k) k q421 l422 c423 q424 l425 c426 H K

def L_BitioReads_Ct {R : Type} (L_exampleHoldsq : (Bool → Option R) → Option R) (bitio_NewReader : Option Addr → Nat → Nat → Heap → (Option Addr → Heap → Option R) → Option R) (R09_NewReader : Option Addr → Nat → Nat → Heap → (Option Addr → Heap → Option R) → Option R) (L_read : Option Addr → Int → Int → Int → Heap → (Int → Int → Heap → Option R) → Option R) (L_readRef : Option Addr → Int → Int → Int → Heap → (Int → Int → Heap → Option R) → Option R) : Tab R := tcons 11 (L_exampleHoldsq_ca L_exampleHoldsq) <| tcons 21 (bitio_NewReader_ca bitio_NewReader) <| tcons 25 (R09_NewReader_ca R09_NewReader) <| tcons 27 (L_read_ca L_read) <| tcons 28 (L_readRef_ca L_readRef) <| fun _ _ _ _ => none
def L_BitioReads_C (R : Type) (k : Nat) : Tab R := L_BitioReads_Ct L_exampleHoldsq bitio_NewReader R09_NewReader (L_read k) (L_readRef k)
theorem L_BitioReads_S (R : Type) (k : Nat) : CSound Try.prog (L_BitioReads_C R k) := csound_cons (L_exampleHoldsq_cs R k) <| csound_cons (bitio_NewReader_cs R k) <| csound_cons (R09_NewReader_cs R k) <| csound_cons (L_read_cs R k) <| csound_cons (L_readRef_cs R k) <| csound_nil
def L_BitioReads_aa0 {R : Type} (f : Option Addr → Nat → Nat → Option Addr → Nat → Nat → (Option Addr → Nat → Nat → Option Addr → Nat → Nat → Bool → Option R) → Option R) (n : Nat) (vals : List Value) (H : Heap) (K : Xit → Env → Heap → Option R) : Option R :=
  match vals with
  | [.slice q427 l428 c429, .slice q430 l431 c432] => f q427 l428 c429 q430 l431 c432 (fun q1210 l1211 c1212 q1213 l1214 c1215 t1216 => K .normal [(0, .slice q1210 l1211 c1212), (1, .slice q1213 l1214 c1215), (20, .bool t1216)] H)
  | _ => none
def L_BitioReads_a0 (R : Type) (k n : Nat) (vals : List Value) (H : Heap) (K : Xit → Env → Heap → Option R) : Option R := L_BitioReads_aa0 (L_BitioReads_p0 k) n vals H K
def L_BitioReads_aa1 {R : Type} (f : (Heap → Option R) → (Bool → Heap → Option R) → Nat → Option Addr → Option Addr → Option Addr → Nat → Nat → Int → Int → Heap → Option R) (n : Nat) (vals : List Value) (H : Heap) (K : Xit → Env → Heap → Option R) : Option R :=
  match vals with
  | [.pointer p452, .pointer p453, .slice q454 l455 c456, .int .i64 n457, .int .i64 n458] => f (fun H => K (.exit 0) [] H) (fun t1217 H => K .ret [(4, .bool t1217)] H) n p452 p453 q454 l455 c456 n457 n458 H
  | _ => none
def L_BitioReads_a1 (R : Type) (k n : Nat) (vals : List Value) (H : Heap) (K : Xit → Env → Heap → Option R) : Option R := L_BitioReads_aa1 (L_BitioReads_l1 k) n vals H K
def L_BitioReads_aa2 {R : Type} (f : Option Addr → Option Addr → Option Addr → Nat → Nat → Int → Int → Heap → (Option Addr → Option Addr → Option Addr → Nat → Nat → Int → Int → Heap → Option R) → (Bool → Heap → Option R) → Option R) (n : Nat) (vals : List Value) (H : Heap) (K : Xit → Env → Heap → Option R) : Option R :=
  match vals with
  | [.pointer p459, .pointer p460, .slice q461 l462 c463, .int .i64 n464, .int .i64 n465] => f p459 p460 q461 l462 c463 n464 n465 H (fun p1218 p1219 q1220 l1221 c1222 n1223 n1224 H => K .normal [(5, .pointer p1218), (6, .pointer p1219), (26, .slice q1220 l1221 c1222), (27, .int .i64 n1223), (28, .int .i64 n1224)] H) (fun t1225 H => K .ret [(4, .bool t1225)] H)
  | _ => none
def L_BitioReads_a2 (R : Type) (k n : Nat) (vals : List Value) (H : Heap) (K : Xit → Env → Heap → Option R) : Option R := L_BitioReads_aa2 (L_BitioReads_p2 k) n vals H K
def L_BitioReads_Jt {R : Type} (k : Nat) (L_BitioReads_p0 : Option Addr → Nat → Nat → Option Addr → Nat → Nat → (Option Addr → Nat → Nat → Option Addr → Nat → Nat → Bool → Option R) → Option R) (L_BitioReads_l1 : (Heap → Option R) → (Bool → Heap → Option R) → Nat → Option Addr → Option Addr → Option Addr → Nat → Nat → Int → Int → Heap → Option R) (L_BitioReads_p2 : Option Addr → Option Addr → Option Addr → Nat → Nat → Int → Int → Heap → (Option Addr → Option Addr → Option Addr → Nat → Nat → Int → Int → Heap → Option R) → (Bool → Heap → Option R) → Option R) : JTab R := tcons 0 (L_BitioReads_aa0 L_BitioReads_p0 k) <| tcons 1 (L_BitioReads_aa1 L_BitioReads_l1 k) <| tcons 2 (L_BitioReads_aa2 L_BitioReads_p2 k) <| fun _ _ _ _ => none
def L_BitioReads_J (R : Type) (k : Nat) : JTab R := L_BitioReads_Jt k (L_BitioReads_p0 k) (L_BitioReads_l1 k) (L_BitioReads_p2 k)
def L_BitioReads_at : AT := (.seq (.reg [0, 1] []) (.seq (.seq (.opq 0 [0, 1] ⟨[0, 1, 20], [], []⟩ (.reg [0, 1, 20] [])) (.cond (.seq (.reg [4] []) .leaf) .leaf)) (.seq (.reg [1, 5, 6] []) (.seq (.seq (.reg [5, 6, 26, 27, 28] []) (.node (.opq 1 [5, 6, 26, 27, 28] ⟨[], [(0, [])], [4]⟩ (.node (.seq (.reg [5, 6, 26, 27, 28, 29] []) (.seq (.cond .leaf .leaf) (.seq (.opq 2 [5, 6, 26, 27, 28] ⟨[5, 6, 26, 27, 28], [], [4]⟩ (.node (.seq (.reg [5, 6, 8, 26, 27, 28] []) (.seq (.reg [5, 6, 8, 9, 10, 26, 27, 28] []) (.seq (.reg [5, 6, 9, 10, 11, 12, 26, 27, 28] []) (.seq (.reg [5, 6, 26, 27, 28, 51] []) (.cond (.seq (.reg [4] []) .leaf) .leaf))))))) (.reg [5, 6, 26, 27, 28] [])))))))) (.seq (.reg [4] []) .leaf)))))
def L_BitioReads_i2 : IC := (.block 1 (.seq (.reg [⟨some 30, .ids 3 (.t 26) (.t 28), none⟩,
 ⟨some 31, .ld (.agg [(.int .i64), (.int .i64), (.int .i64)]) (.t 30), none⟩,
 ⟨some 8, .alc [.int .i64 0, .int .i64 0, .int .i64 0], none⟩,
 ⟨none, .st 3 (.t 8) (.t 31), none⟩] [5, 6, 8, 26, 27, 28]) (.seq (.reg [⟨some 33, .mov (.t 5), none⟩,
 ⟨some 34, .ld (.agg [(.int .i64), (.int .i64), (.int .i64)]) (.t 8), none⟩,
 ⟨some 35, .call 27 [(.t 33), (.t 34)] (.tup [(.sc (.int .i64)), (.sc (.int .i64))]), none⟩,
 ⟨some 32, .mov (.t 35), none⟩,
 ⟨some 36, .ext 0 (.t 32), none⟩,
 ⟨some 37, .ext 1 (.t 32), none⟩,
 ⟨some 9, .mov (.t 36), none⟩,
 ⟨some 10, .mov (.t 37), none⟩] [5, 6, 8, 9, 10, 26, 27, 28]) (.seq (.reg [⟨some 39, .mov (.t 6), none⟩,
 ⟨some 40, .ld (.agg [(.int .i64), (.int .i64), (.int .i64)]) (.t 8), none⟩,
 ⟨some 41, .call 28 [(.t 39), (.t 40)] (.tup [(.sc (.int .i64)), (.sc (.int .i64))]), none⟩,
 ⟨some 38, .mov (.t 41), none⟩,
 ⟨some 42, .ext 0 (.t 38), none⟩,
 ⟨some 43, .ext 1 (.t 38), none⟩,
 ⟨some 11, .mov (.t 42), none⟩,
 ⟨some 12, .mov (.t 43), none⟩] [5, 6, 9, 10, 11, 12, 26, 27, 28]) (.seq (.reg [⟨some 44, .mov (.t 9), none⟩,
 ⟨some 45, .mov (.t 11), none⟩,
 ⟨some 46, .cmp .neq (.t 44) (.t 45), none⟩,
 ⟨some 47, .mov (.t 46), none⟩,
 ⟨some 48, .mov (.t 10), some (47, false)⟩,
 ⟨some 49, .mov (.t 12), some (47, false)⟩,
 ⟨some 50, .cmp .neq (.t 48) (.t 49), some (47, false)⟩,
 ⟨some 51, .pick (.t 47) (.c (Go.Value.bool true)) (.t 50), none⟩] [5, 6, 26, 27, 28, 51]) (.cond (.t 51) (.seq (.reg [⟨some 4, .mov (.c (Go.Value.bool false)), none⟩] [4]) .ret) .skip))))))
def L_BitioReads_i1 : IC := (.seq (.reg [⟨some 29, .cmp .lss (.t 28) (.t 27), none⟩] [5, 6, 26, 27, 28, 29]) (.seq (.cond (.t 29) .skip (.exit 0)) (.seq (.opq 2 [5, 6, 26, 27, 28] L_BitioReads_i2) (.reg [⟨some 52, .bin .add .i64 (.t 28) (.c (Go.Value.int Go.IntKind.i64 1)), none⟩,
 ⟨some 28, .mov (.t 52), none⟩] [5, 6, 26, 27, 28]))))
def L_BitioReads_i0 : IC := (.reg [⟨some 13, .mov (.t 0), none⟩,
 ⟨some 14, .len false (.t 13), none⟩,
 ⟨some 15, .cmp .gtr (.t 14) (.c (Go.Value.int Go.IntKind.i64 3000)), none⟩,
 ⟨some 16, .mov (.t 15), none⟩,
 ⟨some 17, .mov (.t 1), some (16, false)⟩,
 ⟨some 18, .len false (.t 17), some (16, false)⟩,
 ⟨some 19, .cmp .gtr (.t 18) (.c (Go.Value.int Go.IntKind.i64 200)), some (16, false)⟩,
 ⟨some 20, .pick (.t 16) (.c (Go.Value.bool true)) (.t 19), none⟩] [0, 1, 20])
def L_BitioReads_f : IFn := ⟨54, [.t 4], (.seq (.reg [⟨some 4, .mov (.c (Go.Value.bool false)), none⟩] [0, 1]) (.seq (.seq (.opq 0 [0, 1] L_BitioReads_i0) (.cond (.t 20) (.seq (.reg [⟨some 21, .call 11 [] (.one (.sc .bool)), none⟩,
 ⟨some 4, .mov (.t 21), none⟩] [4]) .ret) .skip)) (.seq (.reg [⟨some 22, .mov (.t 0), none⟩,
 ⟨some 23, .call 21 [(.t 22)] (.one (.sc .ptr)), none⟩,
 ⟨some 24, .mov (.t 0), none⟩,
 ⟨some 25, .call 25 [(.t 24)] (.one (.sc .ptr)), none⟩,
 ⟨some 5, .mov (.t 23), none⟩,
 ⟨some 6, .mov (.t 25), none⟩] [1, 5, 6]) (.seq (.seq (.reg [⟨some 26, .mov (.t 1), none⟩,
 ⟨some 27, .len false (.t 26), none⟩,
 ⟨some 28, .mov (.c (Go.Value.int Go.IntKind.i64 0)), none⟩] [5, 6, 26, 27, 28]) (.block 0 (.opq 1 [5, 6, 26, 27, 28] (.loop L_BitioReads_i1)))) (.seq (.reg [⟨some 53, .call 11 [] (.one (.sc .bool)), none⟩,
 ⟨some 4, .mov (.t 53), none⟩] [4]) .ret)))))⟩
theorem L_BitioReads_e2 {R : Type} (L_exampleHoldsq : (Bool → Option R) → Option R) (bitio_NewReader : Option Addr → Nat → Nat → Heap → (Option Addr → Heap → Option R) → Option R) (R09_NewReader : Option Addr → Nat → Nat → Heap → (Option Addr → Heap → Option R) → Option R) (L_read : Option Addr → Int → Int → Int → Heap → (Int → Int → Heap → Option R) → Option R) (L_readRef : Option Addr → Int → Int → Int → Heap → (Int → Int → Heap → Option R) → Option R) (L_BitioReads_p0 : Option Addr → Nat → Nat → Option Addr → Nat → Nat → (Option Addr → Nat → Nat → Option Addr → Nat → Nat → Bool → Option R) → Option R) (L_BitioReads_l1 : (Heap → Option R) → (Bool → Heap → Option R) → Nat → Option Addr → Option Addr → Option Addr → Nat → Nat → Int → Int → Heap → Option R) (L_BitioReads_p2 : Option Addr → Option Addr → Option Addr → Nat → Nat → Int → Int → Heap → (Option Addr → Option Addr → Option Addr → Nat → Nat → Int → Int → Heap → Option R) → (Bool → Heap → Option R) → Option R) (k : Nat) (p459 : Option Addr) (p460 : Option Addr) (q461 : Option Addr) (l462 : Nat) (c463 : Nat) (n464 : Int) (n465 : Int) (H : Heap) (K : Xit → Env → Heap → Option R) : evJ (L_BitioReads_Ct L_exampleHoldsq bitio_NewReader R09_NewReader L_read L_readRef) (L_BitioReads_Jt k L_BitioReads_p0 L_BitioReads_l1 L_BitioReads_p2) L_BitioReads_i2 (List.zip [5, 6, 26, 27, 28] [.pointer p459, .pointer p460, .slice q461 l462 c463, .int .i64 n464, .int .i64 n465]) H (fun x e' H' => K x (clean e' ((⟨[5, 6, 26, 27, 28], [], [4]⟩ : Out).of x)) H') = L_BitioReads_p2_b L_read L_readRef k p459 p460 q461 l462 c463 n464 n465 H (fun p1218 p1219 q1220 l1221 c1222 n1223 n1224 H => K .normal [(5, .pointer p1218), (6, .pointer p1219), (26, .slice q1220 l1221 c1222), (27, .int .i64 n1223), (28, .int .i64 n1224)] H) (fun t1225 H => K .ret [(4, .bool t1225)] H) := by kernel_rfl
theorem L_BitioReads_j2 {R : Type} (k : Nat) : JS Try.prog 54 (L_BitioReads_a2 R k k) [5, 6, 26, 27, 28] ⟨[5, 6, 26, 27, 28], [], [4]⟩ (sel [1, 1, 1, 0, 1, 0, 0, 1, 1, 0] (Try.f7.body.getD .skip)) :=
  piece_ok (nt := 54) (c := (sel [1, 1, 1, 0, 1, 0, 0, 1, 1, 0] (Try.f7.body.getD .skip))) (C := L_BitioReads_C R k) (an := An) (t := (.node (.seq (.reg [5, 6, 8, 26, 27, 28] []) (.seq (.reg [5, 6, 8, 9, 10, 26, 27, 28] []) (.seq (.reg [5, 6, 9, 10, 11, 12, 26, 27, 28] []) (.seq (.reg [5, 6, 26, 27, 28, 51] []) (.cond (.seq (.reg [4] []) .leaf) .leaf))))))) (ic := L_BitioReads_i2) (L_BitioReads_S R k) (L_BitioReads_J R k) (by kernel_rfl) (And.intro True.intro (And.intro True.intro (And.intro True.intro (And.intro True.intro (And.intro (And.intro True.intro True.intro) True.intro))))) (L_BitioReads_a2 R k k)
    (fun vals H K r h => by
      unfold L_BitioReads_a2 L_BitioReads_aa2 at h
      split at h <;> first | (cases h; done) | exact Eq.trans (L_BitioReads_e2 L_exampleHoldsq bitio_NewReader R09_NewReader (L_read k) (L_readRef k) (L_BitioReads_p0 k) (L_BitioReads_l1 k) (L_BitioReads_p2 k) k _ _ _ _ _ _ _ H K) h)
theorem L_BitioReads_e1 {R : Type} (L_exampleHoldsq : (Bool → Option R) → Option R) (bitio_NewReader : Option Addr → Nat → Nat → Heap → (Option Addr → Heap → Option R) → Option R) (R09_NewReader : Option Addr → Nat → Nat → Heap → (Option Addr → Heap → Option R) → Option R) (L_read : Option Addr → Int → Int → Int → Heap → (Int → Int → Heap → Option R) → Option R) (L_readRef : Option Addr → Int → Int → Int → Heap → (Int → Int → Heap → Option R) → Option R) (L_BitioReads_p0 : Option Addr → Nat → Nat → Option Addr → Nat → Nat → (Option Addr → Nat → Nat → Option Addr → Nat → Nat → Bool → Option R) → Option R) (L_BitioReads_l1 : (Heap → Option R) → (Bool → Heap → Option R) → Nat → Option Addr → Option Addr → Option Addr → Nat → Nat → Int → Int → Heap → Option R) (L_BitioReads_p2 : Option Addr → Option Addr → Option Addr → Nat → Nat → Int → Int → Heap → (Option Addr → Option Addr → Option Addr → Nat → Nat → Int → Int → Heap → Option R) → (Bool → Heap → Option R) → Option R) (k n : Nat) (p452 : Option Addr) (p453 : Option Addr) (q454 : Option Addr) (l455 : Nat) (c456 : Nat) (n457 : Int) (n458 : Int) (H : Heap) (K : Xit → Env → Heap → Option R) : evJ (L_BitioReads_Ct L_exampleHoldsq bitio_NewReader R09_NewReader L_read L_readRef) (L_BitioReads_Jt k L_BitioReads_p0 L_BitioReads_l1 L_BitioReads_p2) L_BitioReads_i1 (List.zip [5, 6, 26, 27, 28] [.pointer p452, .pointer p453, .slice q454 l455 c456, .int .i64 n457, .int .i64 n458]) H (fun x e' H' => match x with | .normal => L_BitioReads_aa1 L_BitioReads_l1 n ((clean e' [5, 6, 26, 27, 28]).map (·.2)) H' K | x => K x (clean e' ((⟨[], [(0, [])], [4]⟩ : Out).of x)) H') = L_BitioReads_l1_b L_BitioReads_p2 (L_BitioReads_l1 (fun H => K (.exit 0) [] H) (fun t1217 H => K .ret [(4, .bool t1217)] H) n) (fun H => K (.exit 0) [] H) (fun t1217 H => K .ret [(4, .bool t1217)] H) k p452 p453 q454 l455 c456 n457 n458 H := by kernel_rfl
theorem L_BitioReads_j1 {R : Type} (k : Nat) : JS Try.prog 54 (L_BitioReads_a1 R k k) [5, 6, 26, 27, 28] ⟨[], [(0, [])], [4]⟩ (.loop (sel [1, 1, 1, 0, 1, 0, 0] (Try.f7.body.getD .skip))) :=
  loop_ok (nt := 54) (c := (sel [1, 1, 1, 0, 1, 0, 0] (Try.f7.body.getD .skip))) (C := L_BitioReads_C R k) (an := An) (t := (.seq (.reg [5, 6, 26, 27, 28, 29] []) (.seq (.cond .leaf .leaf) (.seq (.opq 2 [5, 6, 26, 27, 28] ⟨[5, 6, 26, 27, 28], [], [4]⟩ (.node (.seq (.reg [5, 6, 8, 26, 27, 28] []) (.seq (.reg [5, 6, 8, 9, 10, 26, 27, 28] []) (.seq (.reg [5, 6, 9, 10, 11, 12, 26, 27, 28] []) (.seq (.reg [5, 6, 26, 27, 28, 51] []) (.cond (.seq (.reg [4] []) .leaf) .leaf))))))) (.reg [5, 6, 26, 27, 28] []))))) (ic := L_BitioReads_i1) (L_BitioReads_S R k) (L_BitioReads_J R k) (by kernel_rfl) (And.intro True.intro (And.intro (And.intro True.intro True.intro) (And.intro (L_BitioReads_j2 k) True.intro))) (L_BitioReads_a1 R k) (fun vals H K => by unfold L_BitioReads_a1 L_BitioReads_aa1; split <;> rfl)
    (fun n vals H K r h => by
      unfold L_BitioReads_a1 L_BitioReads_aa1 at h
      split at h <;> first | (cases h; done) | exact Eq.trans (L_BitioReads_e1 L_exampleHoldsq bitio_NewReader R09_NewReader (L_read k) (L_readRef k) (L_BitioReads_p0 k) (L_BitioReads_l1 k) (L_BitioReads_p2 k) k n _ _ _ _ _ _ _ H K) h) k
theorem L_BitioReads_e0 {R : Type} (L_exampleHoldsq : (Bool → Option R) → Option R) (bitio_NewReader : Option Addr → Nat → Nat → Heap → (Option Addr → Heap → Option R) → Option R) (R09_NewReader : Option Addr → Nat → Nat → Heap → (Option Addr → Heap → Option R) → Option R) (L_read : Option Addr → Int → Int → Int → Heap → (Int → Int → Heap → Option R) → Option R) (L_readRef : Option Addr → Int → Int → Int → Heap → (Int → Int → Heap → Option R) → Option R) (L_BitioReads_p0 : Option Addr → Nat → Nat → Option Addr → Nat → Nat → (Option Addr → Nat → Nat → Option Addr → Nat → Nat → Bool → Option R) → Option R) (L_BitioReads_l1 : (Heap → Option R) → (Bool → Heap → Option R) → Nat → Option Addr → Option Addr → Option Addr → Nat → Nat → Int → Int → Heap → Option R) (L_BitioReads_p2 : Option Addr → Option Addr → Option Addr → Nat → Nat → Int → Int → Heap → (Option Addr → Option Addr → Option Addr → Nat → Nat → Int → Int → Heap → Option R) → (Bool → Heap → Option R) → Option R) (k : Nat) (q427 : Option Addr) (l428 : Nat) (c429 : Nat) (q430 : Option Addr) (l431 : Nat) (c432 : Nat) (H : Heap) (K : Xit → Env → Heap → Option R) : evJ (L_BitioReads_Ct L_exampleHoldsq bitio_NewReader R09_NewReader L_read L_readRef) (L_BitioReads_Jt k L_BitioReads_p0 L_BitioReads_l1 L_BitioReads_p2) L_BitioReads_i0 (List.zip [0, 1] [.slice q427 l428 c429, .slice q430 l431 c432]) H (fun x e' H' => K x (clean e' ((⟨[0, 1, 20], [], []⟩ : Out).of x)) H') = L_BitioReads_p0_b k q427 l428 c429 q430 l431 c432 (fun q1210 l1211 c1212 q1213 l1214 c1215 t1216 => K .normal [(0, .slice q1210 l1211 c1212), (1, .slice q1213 l1214 c1215), (20, .bool t1216)] H) := by kernel_rfl
theorem L_BitioReads_j0 {R : Type} (k : Nat) : JS Try.prog 54 (L_BitioReads_a0 R k k) [0, 1] ⟨[0, 1, 20], [], []⟩ (sel [1, 0, 0] (Try.f7.body.getD .skip)) :=
  piece_ok (nt := 54) (c := (sel [1, 0, 0] (Try.f7.body.getD .skip))) (C := L_BitioReads_C R k) (an := An) (t := (.reg [0, 1, 20] [])) (ic := L_BitioReads_i0) (L_BitioReads_S R k) (L_BitioReads_J R k) (by kernel_rfl) True.intro (L_BitioReads_a0 R k k)
    (fun vals H K r h => by
      unfold L_BitioReads_a0 L_BitioReads_aa0 at h
      split at h <;> first | (cases h; done) | exact Eq.trans (L_BitioReads_e0 L_exampleHoldsq bitio_NewReader R09_NewReader (L_read k) (L_readRef k) (L_BitioReads_p0 k) (L_BitioReads_l1 k) (L_BitioReads_p2 k) k _ _ _ _ _ _ H K) h)
def L_BitioReads_ca {R : Type} (f : Option Addr → Nat → Nat → Option Addr → Nat → Nat → Heap → (Bool → Heap → Option R) → Option R) (args : List Value) (H : Heap) (K : Value → Heap → Option R) : Option R :=
  match args with
  | [.slice q421 l422 c423, .slice q424 l425 c426] => f q421 l422 c423 q424 l425 c426 H (fun t1226 H => K (.bool t1226) H)
  | _ => none
def L_BitioReads_c (R : Type) (k : Nat) (args : List Value) (H : Heap) (K : Value → Heap → Option R) : Option R := L_BitioReads_ca (L_BitioReads k) args H K
theorem L_BitioReads_e {R : Type} (L_exampleHoldsq : (Bool → Option R) → Option R) (bitio_NewReader : Option Addr → Nat → Nat → Heap → (Option Addr → Heap → Option R) → Option R) (R09_NewReader : Option Addr → Nat → Nat → Heap → (Option Addr → Heap → Option R) → Option R) (L_read : Option Addr → Int → Int → Int → Heap → (Int → Int → Heap → Option R) → Option R) (L_readRef : Option Addr → Int → Int → Int → Heap → (Int → Int → Heap → Option R) → Option R) (L_BitioReads_p0 : Option Addr → Nat → Nat → Option Addr → Nat → Nat → (Option Addr → Nat → Nat → Option Addr → Nat → Nat → Bool → Option R) → Option R) (L_BitioReads_l1 : (Heap → Option R) → (Bool → Heap → Option R) → Nat → Option Addr → Option Addr → Option Addr → Nat → Nat → Int → Int → Heap → Option R) (L_BitioReads_p2 : Option Addr → Option Addr → Option Addr → Nat → Nat → Int → Int → Heap → (Option Addr → Option Addr → Option Addr → Nat → Nat → Int → Int → Heap → Option R) → (Bool → Heap → Option R) → Option R) (k : Nat) (q421 : Option Addr) (l422 : Nat) (c423 : Nat) (q424 : Option Addr) (l425 : Nat) (c426 : Nat) (H : Heap) (K : Value → Heap → Option R) : evF (L_BitioReads_Ct L_exampleHoldsq bitio_NewReader R09_NewReader L_read L_readRef) (L_BitioReads_Jt k L_BitioReads_p0 L_BitioReads_l1 L_BitioReads_p2) L_BitioReads_f [.slice q421 l422 c423, .slice q424 l425 c426] H K = L_BitioReads_b L_BitioReads_p0 L_exampleHoldsq bitio_NewReader R09_NewReader L_BitioReads_l1 k q421 l422 c423 q424 l425 c426 H (fun t1226 H => K (.bool t1226) H) := by kernel_rfl
theorem L_BitioReads_cs (R : Type) (k : Nat) : ∀ args H K r, L_BitioReads_c R k args H K = some r → ∃ v H', Tri Try.prog 7 args H v H' ∧ K v H' = some r := by
  intro args H K r h
  unfold L_BitioReads_c L_BitioReads_ca at h
  split at h
  · exact evF_ok (C := L_BitioReads_C R k) (an := An) (t := L_BitioReads_at) (fn := Try.f7) (c := (Try.f7.body.getD .skip)) (ifn := L_BitioReads_f) (L_BitioReads_S R k) (L_BitioReads_J R k) Try.func7 (by kernel_rfl) (by kernel_rfl) (And.intro True.intro (And.intro (And.intro (L_BitioReads_j0 k) (And.intro (And.intro True.intro True.intro) True.intro)) (And.intro True.intro (And.intro (And.intro True.intro (L_BitioReads_j1 k)) (And.intro True.intro True.intro))))) rfl (Eq.trans (L_BitioReads_e L_exampleHoldsq bitio_NewReader R09_NewReader (L_read k) (L_readRef k) (L_BitioReads_p0 k) (L_BitioReads_l1 k) (L_BitioReads_p2 k) k _ _ _ _ _ _ H K) h)
  · cases h
end Go.Proofs.Ytiapgcgpdndkiaa.Sh
