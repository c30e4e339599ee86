/- Lean functions that stand for Go's, over an explicit heap, and the proofs that they do (written by this claim's program shallow.py). -/
import Derived.Test.YtblpaolcgkjcgaaSh5
set_option maxRecDepth 100000
set_option linter.unusedVariables false
set_option linter.unusedSimpArgs false
namespace Go.Proofs.Ytblpaolcgkjcgaa.Sh
open Go.Proofs.Ytblpaolcgkjcgaa.FW
/-! ### R13_Contribution: function 64 -/
def R13_Contribution_p0_b {R : Type} (k : Nat) (n581 : Int) (n582 : Int) (KN : Int → Int → Option R) (KR : Int → Option R) : Option R :=
bif decide (n581 > 0) then (bif decide (n582 > 0) then (KR 1)
 else (KN n581 n582))
 else (KN n581 n582)
def R13_Contribution_p0 {R : Type} (k : Nat) (n581 : Int) (n582 : Int) (KN : Int → Int → Option R) (KR : Int → Option R) : Option R := R13_Contribution_p0_b k n581 n582 KN KR

def R13_Contribution_p1_b {R : Type} (k : Nat) (n588 : Int) (n589 : Int) (KN : Int → Int → Option R) (KR : Int → Option R) : Option R :=
bif decide (n588 < 0) then (bif decide (n589 < 0) then (KR (-1))
 else (KN n588 n589))
 else (KN n588 n589)
def R13_Contribution_p1 {R : Type} (k : Nat) (n588 : Int) (n589 : Int) (KN : Int → Int → Option R) (KR : Int → Option R) : Option R := R13_Contribution_p1_b k n588 n589 KN KR

def R13_Contribution_b {R : Type} (R13_Contribution_p0 : Int → Int → (Int → Int → Option R) → (Int → Option R) → Option R) (R13_Contribution_p1 : Int → Int → (Int → Int → Option R) → (Int → Option R) → Option R) (R13_limit : Int → Int → Int → (Int → Option R) → Option R) (k : Nat) (n579 : Int) (n580 : Int) (K : Int → Option R) : Option R :=
R13_Contribution_p0 n579 n580 (fun n586 n587 =>
R13_Contribution_p1 n586 n587 (fun n593 n594 =>
R13_limit (IntKind.wrap .i64 (n593 + n594)) (-1) 1 fun n595 =>
K n595) (fun n596 =>
K n596)) (fun n597 =>
K n597)

def R13_Contribution {R : Type} (k : Nat) (n579 : Int) (n580 : Int) (K : Int → Option R) : Option R := R13_Contribution_b (R13_Contribution_p0 k) (R13_Contribution_p1 k) R13_limit k n579 n580 K

def R13_Contribution_Ct {R : Type} (R13_limit : Int → Int → Int → (Int → Option R) → Option R) : Tab R := tcons 68 (R13_limit_ca R13_limit) <| fun _ _ _ _ => none
def R13_Contribution_C (R : Type) (k : Nat) : Tab R := R13_Contribution_Ct R13_limit
theorem R13_Contribution_S (R : Type) (k : Nat) : CSound Try.prog (R13_Contribution_C R k) := csound_cons (R13_limit_cs R k) <| csound_nil
def R13_Contribution_aa0 {R : Type} (f : Int → Int → (Int → Int → Option R) → (Int → Option R) → Option R) (n : Nat) (vals : List Value) (H : Heap) (K : Xit → Env → Heap → Option R) : Option R :=
  match vals with
  | [.int .i64 n581, .int .i64 n582] => f n581 n582 (fun n1339 n1340 => K .normal [(0, .int .i64 n1339), (1, .int .i64 n1340)] H) (fun n1341 => K .ret [(4, .int .i64 n1341)] H)
  | _ => none
def R13_Contribution_a0 (R : Type) (k n : Nat) (vals : List Value) (H : Heap) (K : Xit → Env → Heap → Option R) : Option R := R13_Contribution_aa0 (R13_Contribution_p0 k) n vals H K
def R13_Contribution_aa1 {R : Type} (f : Int → Int → (Int → Int → Option R) → (Int → Option R) → Option R) (n : Nat) (vals : List Value) (H : Heap) (K : Xit → Env → Heap → Option R) : Option R :=
  match vals with
  | [.int .i64 n588, .int .i64 n589] => f n588 n589 (fun n1342 n1343 => K .normal [(0, .int .i64 n1342), (1, .int .i64 n1343)] H) (fun n1344 => K .ret [(4, .int .i64 n1344)] H)
  | _ => none
def R13_Contribution_a1 (R : Type) (k n : Nat) (vals : List Value) (H : Heap) (K : Xit → Env → Heap → Option R) : Option R := R13_Contribution_aa1 (R13_Contribution_p1 k) n vals H K
def R13_Contribution_Jt {R : Type} (k : Nat) (R13_Contribution_p0 : Int → Int → (Int → Int → Option R) → (Int → Option R) → Option R) (R13_Contribution_p1 : Int → Int → (Int → Int → Option R) → (Int → Option R) → Option R) : JTab R := tcons 0 (R13_Contribution_aa0 R13_Contribution_p0 k) <| tcons 1 (R13_Contribution_aa1 R13_Contribution_p1 k) <| fun _ _ _ _ => none
def R13_Contribution_J (R : Type) (k : Nat) : JTab R := R13_Contribution_Jt k (R13_Contribution_p0 k) (R13_Contribution_p1 k)
def R13_Contribution_at : AT := (.seq (.reg [0, 1] []) (.seq (.opq 0 [0, 1] ⟨[0, 1], [], [4]⟩ (.seq (.reg [0, 1, 10] []) (.cond (.seq (.reg [4] []) .leaf) .leaf))) (.seq (.opq 1 [0, 1] ⟨[0, 1], [], [4]⟩ (.seq (.reg [0, 1, 16] []) (.cond (.seq (.reg [4] []) .leaf) .leaf))) (.seq (.reg [4] []) .leaf))))
def R13_Contribution_i1 : IC := (.seq (.reg [⟨some 11, .mov (.t 0), none⟩,
 ⟨some 12, .cmp .lss (.t 11) (.c (Go.Value.int Go.IntKind.i64 0)), none⟩,
 ⟨some 13, .mov (.t 12), none⟩,
 ⟨some 14, .mov (.t 1), some (13, true)⟩,
 ⟨some 15, .cmp .lss (.t 14) (.c (Go.Value.int Go.IntKind.i64 0)), some (13, true)⟩,
 ⟨some 16, .pick (.t 13) (.t 15) (.c (Go.Value.bool false)), none⟩] [0, 1, 16]) (.cond (.t 16) (.seq (.reg [⟨some 4, .mov (.c (Go.Value.int Go.IntKind.i64 (-1))), none⟩] [4]) .ret) .skip))
def R13_Contribution_i0 : IC := (.seq (.reg [⟨some 5, .mov (.t 0), none⟩,
 ⟨some 6, .cmp .gtr (.t 5) (.c (Go.Value.int Go.IntKind.i64 0)), none⟩,
 ⟨some 7, .mov (.t 6), none⟩,
 ⟨some 8, .mov (.t 1), some (7, true)⟩,
 ⟨some 9, .cmp .gtr (.t 8) (.c (Go.Value.int Go.IntKind.i64 0)), some (7, true)⟩,
 ⟨some 10, .pick (.t 7) (.t 9) (.c (Go.Value.bool false)), none⟩] [0, 1, 10]) (.cond (.t 10) (.seq (.reg [⟨some 4, .mov (.c (Go.Value.int Go.IntKind.i64 1)), none⟩] [4]) .ret) .skip))
def R13_Contribution_f : IFn := ⟨21, [.t 4], (.seq (.reg [⟨some 4, .mov (.c (Go.Value.int Go.IntKind.i64 0)), none⟩] [0, 1]) (.seq (.opq 0 [0, 1] R13_Contribution_i0) (.seq (.opq 1 [0, 1] R13_Contribution_i1) (.seq (.reg [⟨some 17, .mov (.t 0), none⟩,
 ⟨some 18, .mov (.t 1), none⟩,
 ⟨some 19, .bin .add .i64 (.t 17) (.t 18), none⟩,
 ⟨some 20, .call 68 [(.t 19), (.c (Go.Value.int Go.IntKind.i64 (-1))), (.c (Go.Value.int Go.IntKind.i64 1))] (.one (.sc (.int .i64))), none⟩,
 ⟨some 4, .mov (.t 20), none⟩] [4]) .ret))))⟩
theorem R13_Contribution_e1 {R : Type} (R13_limit : Int → Int → Int → (Int → Option R) → Option R) (R13_Contribution_p0 : Int → Int → (Int → Int → Option R) → (Int → Option R) → Option R) (R13_Contribution_p1 : Int → Int → (Int → Int → Option R) → (Int → Option R) → Option R) (k : Nat) (n588 : Int) (n589 : Int) (H : Heap) (K : Xit → Env → Heap → Option R) : evJ (R13_Contribution_Ct R13_limit) (R13_Contribution_Jt k R13_Contribution_p0 R13_Contribution_p1) R13_Contribution_i1 (List.zip [0, 1] [.int .i64 n588, .int .i64 n589]) H (fun x e' H' => K x (clean e' ((⟨[0, 1], [], [4]⟩ : Out).of x)) H') = R13_Contribution_p1_b k n588 n589 (fun n1342 n1343 => K .normal [(0, .int .i64 n1342), (1, .int .i64 n1343)] H) (fun n1344 => K .ret [(4, .int .i64 n1344)] H) := by kernel_rfl
theorem R13_Contribution_j1 {R : Type} (k : Nat) : JS Try.prog 21 (R13_Contribution_a1 R k k) [0, 1] ⟨[0, 1], [], [4]⟩ (sel [1, 1, 0] (Try.f64.body.getD .skip)) :=
  piece_ok (nt := 21) (c := (sel [1, 1, 0] (Try.f64.body.getD .skip))) (C := R13_Contribution_C R k) (an := An) (t := (.seq (.reg [0, 1, 16] []) (.cond (.seq (.reg [4] []) .leaf) .leaf))) (ic := R13_Contribution_i1) (R13_Contribution_S R k) (R13_Contribution_J R k) (by kernel_rfl) (And.intro True.intro (And.intro (And.intro True.intro True.intro) True.intro)) (R13_Contribution_a1 R k k)
    (fun vals H K r h => by
      unfold R13_Contribution_a1 R13_Contribution_aa1 at h
      split at h <;> first | (cases h; done) | exact Eq.trans (R13_Contribution_e1 R13_limit (R13_Contribution_p0 k) (R13_Contribution_p1 k) k _ _ H K) h)
theorem R13_Contribution_e0 {R : Type} (R13_limit : Int → Int → Int → (Int → Option R) → Option R) (R13_Contribution_p0 : Int → Int → (Int → Int → Option R) → (Int → Option R) → Option R) (R13_Contribution_p1 : Int → Int → (Int → Int → Option R) → (Int → Option R) → Option R) (k : Nat) (n581 : Int) (n582 : Int) (H : Heap) (K : Xit → Env → Heap → Option R) : evJ (R13_Contribution_Ct R13_limit) (R13_Contribution_Jt k R13_Contribution_p0 R13_Contribution_p1) R13_Contribution_i0 (List.zip [0, 1] [.int .i64 n581, .int .i64 n582]) H (fun x e' H' => K x (clean e' ((⟨[0, 1], [], [4]⟩ : Out).of x)) H') = R13_Contribution_p0_b k n581 n582 (fun n1339 n1340 => K .normal [(0, .int .i64 n1339), (1, .int .i64 n1340)] H) (fun n1341 => K .ret [(4, .int .i64 n1341)] H) := by kernel_rfl
theorem R13_Contribution_j0 {R : Type} (k : Nat) : JS Try.prog 21 (R13_Contribution_a0 R k k) [0, 1] ⟨[0, 1], [], [4]⟩ (sel [1, 0] (Try.f64.body.getD .skip)) :=
  piece_ok (nt := 21) (c := (sel [1, 0] (Try.f64.body.getD .skip))) (C := R13_Contribution_C R k) (an := An) (t := (.seq (.reg [0, 1, 10] []) (.cond (.seq (.reg [4] []) .leaf) .leaf))) (ic := R13_Contribution_i0) (R13_Contribution_S R k) (R13_Contribution_J R k) (by kernel_rfl) (And.intro True.intro (And.intro (And.intro True.intro True.intro) True.intro)) (R13_Contribution_a0 R k k)
    (fun vals H K r h => by
      unfold R13_Contribution_a0 R13_Contribution_aa0 at h
      split at h <;> first | (cases h; done) | exact Eq.trans (R13_Contribution_e0 R13_limit (R13_Contribution_p0 k) (R13_Contribution_p1 k) k _ _ H K) h)
def R13_Contribution_ca {R : Type} (f : Int → Int → (Int → Option R) → Option R) (args : List Value) (H : Heap) (K : Value → Heap → Option R) : Option R :=
  match args with
  | [.int .i64 n579, .int .i64 n580] => f n579 n580 (fun n1345 => K (.int .i64 n1345) H)
  | _ => none
def R13_Contribution_c (R : Type) (k : Nat) (args : List Value) (H : Heap) (K : Value → Heap → Option R) : Option R := R13_Contribution_ca (R13_Contribution k) args H K
theorem R13_Contribution_e {R : Type} (R13_limit : Int → Int → Int → (Int → Option R) → Option R) (R13_Contribution_p0 : Int → Int → (Int → Int → Option R) → (Int → Option R) → Option R) (R13_Contribution_p1 : Int → Int → (Int → Int → Option R) → (Int → Option R) → Option R) (k : Nat) (n579 : Int) (n580 : Int) (H : Heap) (K : Value → Heap → Option R) : evF (R13_Contribution_Ct R13_limit) (R13_Contribution_Jt k R13_Contribution_p0 R13_Contribution_p1) R13_Contribution_f [.int .i64 n579, .int .i64 n580] H K = R13_Contribution_b R13_Contribution_p0 R13_Contribution_p1 R13_limit k n579 n580 (fun n1345 => K (.int .i64 n1345) H) := by kernel_rfl
theorem R13_Contribution_cs (R : Type) (k : Nat) : ∀ args H K r, R13_Contribution_c R k args H K = some r → ∃ v H', Tri Try.prog 64 args H v H' ∧ K v H' = some r := by
  intro args H K r h
  unfold R13_Contribution_c R13_Contribution_ca at h
  split at h
  · exact evF_ok (C := R13_Contribution_C R k) (an := An) (t := R13_Contribution_at) (fn := Try.f64) (c := (Try.f64.body.getD .skip)) (ifn := R13_Contribution_f) (R13_Contribution_S R k) (R13_Contribution_J R k) Try.func64 (by kernel_rfl) (by kernel_rfl) (And.intro True.intro (And.intro (R13_Contribution_j0 k) (And.intro (R13_Contribution_j1 k) (And.intro True.intro True.intro)))) rfl (Eq.trans (R13_Contribution_e R13_limit (R13_Contribution_p0 k) (R13_Contribution_p1 k) k _ _ H K) h)
  · cases h
/-! ### R14_Block_Signs: function 45 -/
def R14_Block_Signs_p0_b {R : Type} (k : Nat) (p546 : Option Addr) (n547 : Int) (n548 : Int) (t549 : Bool) (n550 : Int) (KN : Option Addr → Int → Int → Int → Option R) : Option R :=
bif t549 then (bif ((Int.tmod n548 4) == 3) then (KN p546 n547 n548 0)
 else (KN p546 n547 n548 n550))
 else (KN p546 n547 n548 n550)
def R14_Block_Signs_p0 {R : Type} (k : Nat) (p546 : Option Addr) (n547 : Int) (n548 : Int) (t549 : Bool) (n550 : Int) (KN : Option Addr → Int → Int → Int → Option R) : Option R := R14_Block_Signs_p0_b k p546 n547 n548 t549 n550 KN

def R14_Block_Signs_b {R : Type} (R14_Block_in : Option Addr → Int → Int → Heap → (Bool → Option R) → Option R) (R14_Block_sign : Option Addr → Int → Int → Heap → (Int → Heap → Option R) → Option R) (R14_Block_Signs_p0 : Option Addr → Int → Int → Bool → Int → (Option Addr → Int → Int → Int → Option R) → Option R) (R13_Contribution : Int → Int → (Int → Option R) → Option R) (k : Nat) (p539 : Option Addr) (n540 : Int) (n541 : Int) (t542 : Bool) (H : Heap) (K : Int → Int → Heap → Option R) : Option R :=
R14_Block_in p539 n540 n541 H fun t543 =>
bif (!t543) then (K 0 0 H)
 else (R14_Block_sign p539 n540 (IntKind.wrap .i64 (n541 + 1)) H fun n544 H545 =>
R14_Block_Signs_p0 p539 n540 n541 t542 n544 (fun p555 n556 n557 n558 =>
R14_Block_sign p555 (IntKind.wrap .i64 (n556 - 1)) n557 H545 fun n559 H560 =>
R14_Block_sign p555 (IntKind.wrap .i64 (n556 + 1)) n557 H560 fun n561 H562 =>
R13_Contribution n559 n561 fun n563 =>
R14_Block_sign p555 n556 (IntKind.wrap .i64 (n557 - 1)) H562 fun n564 H565 =>
R13_Contribution n564 n558 fun n566 =>
K n563 n566 H565))

def R14_Block_Signs {R : Type} (k : Nat) (p539 : Option Addr) (n540 : Int) (n541 : Int) (t542 : Bool) (H : Heap) (K : Int → Int → Heap → Option R) : Option R := R14_Block_Signs_b R14_Block_in R14_Block_sign (R14_Block_Signs_p0 k) (R13_Contribution k) k p539 n540 n541 t542 H K

def R14_Block_Signs_Ct {R : Type} (R14_Block_in : Option Addr → Int → Int → Heap → (Bool → Option R) → Option R) (R14_Block_sign : Option Addr → Int → Int → Heap → (Int → Heap → Option R) → Option R) (R13_Contribution : Int → Int → (Int → Option R) → Option R) : Tab R := tcons 61 (R14_Block_in_ca R14_Block_in) <| tcons 63 (R14_Block_sign_ca R14_Block_sign) <| tcons 64 (R13_Contribution_ca R13_Contribution) <| fun _ _ _ _ => none
def R14_Block_Signs_C (R : Type) (k : Nat) : Tab R := R14_Block_Signs_Ct R14_Block_in R14_Block_sign (R13_Contribution k)
theorem R14_Block_Signs_S (R : Type) (k : Nat) : CSound Try.prog (R14_Block_Signs_C R k) := csound_cons (R14_Block_in_cs R k) <| csound_cons (R14_Block_sign_cs R k) <| csound_cons (R13_Contribution_cs R k) <| csound_nil
def R14_Block_Signs_aa0 {R : Type} (f : Option Addr → Int → Int → Bool → Int → (Option Addr → Int → Int → Int → Option R) → Option R) (n : Nat) (vals : List Value) (H : Heap) (K : Xit → Env → Heap → Option R) : Option R :=
  match vals with
  | [.pointer p546, .int .i64 n547, .int .i64 n548, .bool t549, .int .i64 n550] => f p546 n547 n548 t549 n550 (fun p1346 n1347 n1348 n1349 => K .normal [(0, .pointer p1346), (1, .int .i64 n1347), (2, .int .i64 n1348), (10, .int .i64 n1349)] H)
  | _ => none
def R14_Block_Signs_a0 (R : Type) (k n : Nat) (vals : List Value) (H : Heap) (K : Xit → Env → Heap → Option R) : Option R := R14_Block_Signs_aa0 (R14_Block_Signs_p0 k) n vals H K
def R14_Block_Signs_Jt {R : Type} (k : Nat) (R14_Block_Signs_p0 : Option Addr → Int → Int → Bool → Int → (Option Addr → Int → Int → Int → Option R) → Option R) : JTab R := tcons 0 (R14_Block_Signs_aa0 R14_Block_Signs_p0 k) <| fun _ _ _ _ => none
def R14_Block_Signs_J (R : Type) (k : Nat) : JTab R := R14_Block_Signs_Jt k (R14_Block_Signs_p0 k)
def R14_Block_Signs_at : AT := (.seq (.reg [0, 1, 2, 3] []) (.seq (.seq (.reg [0, 1, 2, 3, 15] []) (.cond (.seq (.reg [8, 9] []) .leaf) .leaf)) (.seq (.reg [0, 1, 2, 3, 10] []) (.seq (.opq 0 [0, 1, 2, 3, 10] ⟨[0, 1, 2, 10], [], []⟩ (.seq (.reg [0, 1, 2, 10, 26] []) (.cond (.reg [0, 1, 2, 10] []) .leaf))) (.seq (.reg [8, 9] []) .leaf)))))
def R14_Block_Signs_i0 : IC := (.seq (.reg [⟨some 21, .mov (.t 3), none⟩,
 ⟨some 22, .mov (.t 21), none⟩,
 ⟨some 23, .mov (.t 2), some (22, true)⟩,
 ⟨some 24, .bin .rem .i64 (.t 23) (.c (Go.Value.int Go.IntKind.i64 4)), some (22, true)⟩,
 ⟨some 25, .cmp .eql (.t 24) (.c (Go.Value.int Go.IntKind.i64 3)), some (22, true)⟩,
 ⟨some 26, .pick (.t 22) (.t 25) (.c (Go.Value.bool false)), none⟩] [0, 1, 2, 10, 26]) (.cond (.t 26) (.reg [⟨some 10, .mov (.c (Go.Value.int Go.IntKind.i64 0)), none⟩] [0, 1, 2, 10]) .skip))
def R14_Block_Signs_f : IFn := ⟨45, [.t 8, .t 9], (.seq (.reg [⟨some 8, .mov (.c (Go.Value.int Go.IntKind.i64 0)), none⟩,
 ⟨some 9, .mov (.c (Go.Value.int Go.IntKind.i64 0)), none⟩] [0, 1, 2, 3]) (.seq (.seq (.reg [⟨some 11, .mov (.t 0), none⟩,
 ⟨some 12, .mov (.t 1), none⟩,
 ⟨some 13, .mov (.t 2), none⟩,
 ⟨some 14, .call 61 [(.t 11), (.t 12), (.t 13)] (.one (.sc .bool)), none⟩,
 ⟨some 15, .lnot (.t 14), none⟩] [0, 1, 2, 3, 15]) (.cond (.t 15) (.seq (.reg [⟨some 8, .mov (.c (Go.Value.int Go.IntKind.i64 0)), none⟩,
 ⟨some 9, .mov (.c (Go.Value.int Go.IntKind.i64 0)), none⟩] [8, 9]) .ret) .skip)) (.seq (.reg [⟨some 16, .mov (.t 0), none⟩,
 ⟨some 17, .mov (.t 1), none⟩,
 ⟨some 18, .mov (.t 2), none⟩,
 ⟨some 19, .bin .add .i64 (.t 18) (.c (Go.Value.int Go.IntKind.i64 1)), none⟩,
 ⟨some 20, .call 63 [(.t 16), (.t 17), (.t 19)] (.one (.sc (.int .i64))), none⟩,
 ⟨some 10, .mov (.t 20), none⟩] [0, 1, 2, 3, 10]) (.seq (.opq 0 [0, 1, 2, 3, 10] R14_Block_Signs_i0) (.seq (.reg [⟨some 27, .mov (.t 0), none⟩,
 ⟨some 28, .mov (.t 1), none⟩,
 ⟨some 29, .bin .sub .i64 (.t 28) (.c (Go.Value.int Go.IntKind.i64 1)), none⟩,
 ⟨some 30, .mov (.t 2), none⟩,
 ⟨some 31, .call 63 [(.t 27), (.t 29), (.t 30)] (.one (.sc (.int .i64))), none⟩,
 ⟨some 32, .mov (.t 0), none⟩,
 ⟨some 33, .mov (.t 1), none⟩,
 ⟨some 34, .bin .add .i64 (.t 33) (.c (Go.Value.int Go.IntKind.i64 1)), none⟩,
 ⟨some 35, .mov (.t 2), none⟩,
 ⟨some 36, .call 63 [(.t 32), (.t 34), (.t 35)] (.one (.sc (.int .i64))), none⟩,
 ⟨some 37, .call 64 [(.t 31), (.t 36)] (.one (.sc (.int .i64))), none⟩,
 ⟨some 38, .mov (.t 0), none⟩,
 ⟨some 39, .mov (.t 1), none⟩,
 ⟨some 40, .mov (.t 2), none⟩,
 ⟨some 41, .bin .sub .i64 (.t 40) (.c (Go.Value.int Go.IntKind.i64 1)), none⟩,
 ⟨some 42, .call 63 [(.t 38), (.t 39), (.t 41)] (.one (.sc (.int .i64))), none⟩,
 ⟨some 43, .mov (.t 10), none⟩,
 ⟨some 44, .call 64 [(.t 42), (.t 43)] (.one (.sc (.int .i64))), none⟩,
 ⟨some 8, .mov (.t 37), none⟩,
 ⟨some 9, .mov (.t 44), none⟩] [8, 9]) .ret)))))⟩
theorem R14_Block_Signs_e0 {R : Type} (R14_Block_in : Option Addr → Int → Int → Heap → (Bool → Option R) → Option R) (R14_Block_sign : Option Addr → Int → Int → Heap → (Int → Heap → Option R) → Option R) (R13_Contribution : Int → Int → (Int → Option R) → Option R) (R14_Block_Signs_p0 : Option Addr → Int → Int → Bool → Int → (Option Addr → Int → Int → Int → Option R) → Option R) (k : Nat) (p546 : Option Addr) (n547 : Int) (n548 : Int) (t549 : Bool) (n550 : Int) (H : Heap) (K : Xit → Env → Heap → Option R) : evJ (R14_Block_Signs_Ct R14_Block_in R14_Block_sign R13_Contribution) (R14_Block_Signs_Jt k R14_Block_Signs_p0) R14_Block_Signs_i0 (List.zip [0, 1, 2, 3, 10] [.pointer p546, .int .i64 n547, .int .i64 n548, .bool t549, .int .i64 n550]) H (fun x e' H' => K x (clean e' ((⟨[0, 1, 2, 10], [], []⟩ : Out).of x)) H') = R14_Block_Signs_p0_b k p546 n547 n548 t549 n550 (fun p1346 n1347 n1348 n1349 => K .normal [(0, .pointer p1346), (1, .int .i64 n1347), (2, .int .i64 n1348), (10, .int .i64 n1349)] H) := by kernel_rfl
theorem R14_Block_Signs_j0 {R : Type} (k : Nat) : JS Try.prog 45 (R14_Block_Signs_a0 R k k) [0, 1, 2, 3, 10] ⟨[0, 1, 2, 10], [], []⟩ (sel [1, 1, 1, 0] (Try.f45.body.getD .skip)) :=
  piece_ok (nt := 45) (c := (sel [1, 1, 1, 0] (Try.f45.body.getD .skip))) (C := R14_Block_Signs_C R k) (an := An) (t := (.seq (.reg [0, 1, 2, 10, 26] []) (.cond (.reg [0, 1, 2, 10] []) .leaf))) (ic := R14_Block_Signs_i0) (R14_Block_Signs_S R k) (R14_Block_Signs_J R k) (by kernel_rfl) (And.intro True.intro (And.intro True.intro True.intro)) (R14_Block_Signs_a0 R k k)
    (fun vals H K r h => by
      unfold R14_Block_Signs_a0 R14_Block_Signs_aa0 at h
      split at h <;> first | (cases h; done) | exact Eq.trans (R14_Block_Signs_e0 R14_Block_in R14_Block_sign (R13_Contribution k) (R14_Block_Signs_p0 k) k _ _ _ _ _ H K) h)
def R14_Block_Signs_ca {R : Type} (f : Option Addr → Int → Int → Bool → Heap → (Int → Int → Heap → Option R) → Option R) (args : List Value) (H : Heap) (K : Value → Heap → Option R) : Option R :=
  match args with
  | [.pointer p539, .int .i64 n540, .int .i64 n541, .bool t542] => f p539 n540 n541 t542 H (fun n1350 n1351 H => K (.tuple ⟨[.int .i64 n1350, .int .i64 n1351]⟩) H)
  | _ => none
def R14_Block_Signs_c (R : Type) (k : Nat) (args : List Value) (H : Heap) (K : Value → Heap → Option R) : Option R := R14_Block_Signs_ca (R14_Block_Signs k) args H K
theorem R14_Block_Signs_e {R : Type} (R14_Block_in : Option Addr → Int → Int → Heap → (Bool → Option R) → Option R) (R14_Block_sign : Option Addr → Int → Int → Heap → (Int → Heap → Option R) → Option R) (R13_Contribution : Int → Int → (Int → Option R) → Option R) (R14_Block_Signs_p0 : Option Addr → Int → Int → Bool → Int → (Option Addr → Int → Int → Int → Option R) → Option R) (k : Nat) (p539 : Option Addr) (n540 : Int) (n541 : Int) (t542 : Bool) (H : Heap) (K : Value → Heap → Option R) : evF (R14_Block_Signs_Ct R14_Block_in R14_Block_sign R13_Contribution) (R14_Block_Signs_Jt k R14_Block_Signs_p0) R14_Block_Signs_f [.pointer p539, .int .i64 n540, .int .i64 n541, .bool t542] H K = R14_Block_Signs_b R14_Block_in R14_Block_sign R14_Block_Signs_p0 R13_Contribution k p539 n540 n541 t542 H (fun n1350 n1351 H => K (.tuple ⟨[.int .i64 n1350, .int .i64 n1351]⟩) H) := by kernel_rfl
theorem R14_Block_Signs_cs (R : Type) (k : Nat) : ∀ args H K r, R14_Block_Signs_c R k args H K = some r → ∃ v H', Tri Try.prog 45 args H v H' ∧ K v H' = some r := by
  intro args H K r h
  unfold R14_Block_Signs_c R14_Block_Signs_ca at h
  split at h
  · exact evF_ok (C := R14_Block_Signs_C R k) (an := An) (t := R14_Block_Signs_at) (fn := Try.f45) (c := (Try.f45.body.getD .skip)) (ifn := R14_Block_Signs_f) (R14_Block_Signs_S R k) (R14_Block_Signs_J R k) Try.func45 (by kernel_rfl) (by kernel_rfl) (And.intro True.intro (And.intro (And.intro True.intro (And.intro (And.intro True.intro True.intro) True.intro)) (And.intro True.intro (And.intro (R14_Block_Signs_j0 k) (And.intro True.intro True.intro))))) rfl (Eq.trans (R14_Block_Signs_e R14_Block_in R14_Block_sign (R13_Contribution k) (R14_Block_Signs_p0 k) k _ _ _ _ H K) h)
  · cases h
/-! ### L_around: function 24 -/
def L_around_p2_b {R : Type} (cblk_Block_Neighbors : Option Addr → Int → Int → Bool → Heap → (Int → Int → Int → Option R) → Option R) (R14_Block_Neighbors : Option Addr → Int → Int → Bool → Heap → (Int → Int → Int → Heap → Option R) → Option R) (cblk_Block_Signs : Option Addr → Int → Int → Bool → Heap → (Int → Int → Option R) → Option R) (R14_Block_Signs : Option Addr → Int → Int → Bool → Heap → (Int → Int → Heap → Option R) → Option R) (k : Nat) (p478 : Option Addr) (p479 : Option Addr) (n480 : Int) (n481 : Int) (t482 : Bool) (n483 : Int) (n484 : Int) (H : Heap) (KN : Option Addr → Option Addr → Int → Int → Bool → Int → Int → Heap → Option R) (KR : Bool → Heap → Option R) : Option R :=
cblk_Block_Neighbors p478 n484 n483 t482 H fun n485 n486 n487 =>
R14_Block_Neighbors p479 n484 n483 t482 H fun n488 n489 n490 H491 =>
cblk_Block_Signs p478 n484 n483 t482 H491 fun n492 n493 =>
R14_Block_Signs p479 n484 n483 t482 H491 fun n494 n495 H496 =>
bif (n485 != n488) then (KR false H496)
 else (bif (n486 != n489) then (KR false H496)
 else (bif (n487 != n490) then (KR false H496)
 else (bif (n492 != n494) then (KR false H496)
 else (bif (n493 != n495) then (KR false H496)
 else (KN p478 p479 n480 n481 t482 n483 n484 H496)))))
def L_around_p2 {R : Type} (k : Nat) (p478 : Option Addr) (p479 : Option Addr) (n480 : Int) (n481 : Int) (t482 : Bool) (n483 : Int) (n484 : Int) (H : Heap) (KN : Option Addr → Option Addr → Int → Int → Bool → Int → Int → Heap → Option R) (KR : Bool → Heap → Option R) : Option R := L_around_p2_b (cblk_Block_Neighbors k) (R14_Block_Neighbors k) (cblk_Block_Signs k) (R14_Block_Signs k) k p478 p479 n480 n481 t482 n483 n484 H KN KR

def L_around_l1_b {R : Type} (L_around_p2 : Option Addr → Option Addr → Int → Int → Bool → Int → Int → Heap → (Option Addr → Option Addr → Int → Int → Bool → Int → Int → Heap → Option R) → (Bool → Heap → Option R) → Option R) (rec : Option Addr → Option Addr → Int → Int → Bool → Int → Int → Heap → Option R) (KE2 : Option Addr → Option Addr → Int → Int → Bool → Int → Heap → Option R) (KR : Bool → Heap → Option R) (k : Nat) (p471 : Option Addr) (p472 : Option Addr) (n473 : Int) (n474 : Int) (t475 : Bool) (n476 : Int) (n477 : Int) (H : Heap) : Option R :=
bif decide (n477 ≤ n473) then (L_around_p2 p471 p472 n473 n474 t475 n476 n477 H (fun p505 p506 n507 n508 t509 n510 n511 H512 =>
rec p505 p506 n507 n508 t509 n510 (IntKind.wrap .i64 (n511 + 1)) H512) (fun t513 H514 =>
KR t513 H514))
 else (KE2 p471 p472 n473 n474 t475 n476 H)
def L_around_l1 {R : Type} (k : Nat) (KE2 : Option Addr → Option Addr → Int → Int → Bool → Int → Heap → Option R) (KR : Bool → Heap → Option R) : Nat → Option Addr → Option Addr → Int → Int → Bool → Int → Int → Heap → Option R
  | 0, _, _, _, _, _, _, _, _ => none
  | n + 1, p471, p472, n473, n474, t475, n476, n477, H => L_around_l1_b (L_around_p2 k) (L_around_l1 k KE2 KR n) KE2 KR k p471 p472 n473 n474 t475 n476 n477 H

def L_around_l0_b {R : Type} (L_around_l1 : (Option Addr → Option Addr → Int → Int → Bool → Int → Heap → Option R) → (Bool → Heap → Option R) → Nat → Option Addr → Option Addr → Int → Int → Bool → Int → Int → Heap → Option R) (rec : Option Addr → Option Addr → Int → Int → Bool → Int → Heap → Option R) (KE0 : Heap → Option R) (KR : Bool → Heap → Option R) (k : Nat) (p465 : Option Addr) (p466 : Option Addr) (n467 : Int) (n468 : Int) (t469 : Bool) (n470 : Int) (H : Heap) : Option R :=
bif decide (n470 ≤ n468) then (L_around_l1 (fun p522 p523 n524 n525 t526 n527 H528 =>
rec p522 p523 n524 n525 t526 (IntKind.wrap .i64 (n527 + 1)) H528) (fun t529 H530 =>
KR t529 H530) k p465 p466 n467 n468 t469 n470 (-1) H)
 else (KE0 H)
def L_around_l0 {R : Type} (k : Nat) (KE0 : Heap → Option R) (KR : Bool → Heap → Option R) : Nat → Option Addr → Option Addr → Int → Int → Bool → Int → Heap → Option R
  | 0, _, _, _, _, _, _, _ => none
  | n + 1, p465, p466, n467, n468, t469, n470, H => L_around_l0_b (L_around_l1 k) (L_around_l0 k KE0 KR n) KE0 KR k p465 p466 n467 n468 t469 n470 H

def L_around_b {R : Type} (L_around_l0 : (Heap → Option R) → (Bool → Heap → Option R) → Nat → Option Addr → Option Addr → Int → Int → Bool → Int → Heap → Option R) (k : Nat) (p460 : Option Addr) (p461 : Option Addr) (n462 : Int) (n463 : Int) (t464 : Bool) (H : Heap) (K : Bool → Heap → Option R) : Option R :=
L_around_l0 (fun H532 =>
K true H532) (fun t533 H534 =>
K t533 H534) k p460 p461 n462 n463 t464 (-1) H

def L_around {R : Type} (k : Nat) (p460 : Option Addr) (p461 : Option Addr) (n462 : Int) (n463 : Int) (t464 : Bool) (H : Heap) (K : Bool → Heap → Option R) : Option R := L_around_b (L_around_l0 k) k p460 p461 n462 n463 t464 H K

def L_around_Ct {R : Type} (cblk_Block_Neighbors : Option Addr → Int → Int → Bool → Heap → (Int → Int → Int → Option R) → Option R) (R14_Block_Neighbors : Option Addr → Int → Int → Bool → Heap → (Int → Int → Int → Heap → Option R) → Option R) (cblk_Block_Signs : Option Addr → Int → Int → Bool → Heap → (Int → Int → Option R) → Option R) (R14_Block_Signs : Option Addr → Int → Int → Bool → Heap → (Int → Int → Heap → Option R) → Option R) : Tab R := tcons 29 (cblk_Block_Neighbors_ca cblk_Block_Neighbors) <| tcons 44 (R14_Block_Neighbors_ca R14_Block_Neighbors) <| tcons 30 (cblk_Block_Signs_ca cblk_Block_Signs) <| tcons 45 (R14_Block_Signs_ca R14_Block_Signs) <| fun _ _ _ _ => none
def L_around_C (R : Type) (k : Nat) : Tab R := L_around_Ct (cblk_Block_Neighbors k) (R14_Block_Neighbors k) (cblk_Block_Signs k) (R14_Block_Signs k)
theorem L_around_S (R : Type) (k : Nat) : CSound Try.prog (L_around_C R k) := csound_cons (cblk_Block_Neighbors_cs R k) <| csound_cons (R14_Block_Neighbors_cs R k) <| csound_cons (cblk_Block_Signs_cs R k) <| csound_cons (R14_Block_Signs_cs R k) <| csound_nil
def L_around_aa0 {R : Type} (f : (Heap → Option R) → (Bool → Heap → Option R) → Nat → Option Addr → Option Addr → Int → Int → Bool → Int → Heap → Option R) (n : Nat) (vals : List Value) (H : Heap) (K : Xit → Env → Heap → Option R) : Option R :=
  match vals with
  | [.pointer p465, .pointer p466, .int .i64 n467, .int .i64 n468, .bool t469, .int .i64 n470] => f (fun H => K (.exit 0) [] H) (fun t1352 H => K .ret [(10, .bool t1352)] H) n p465 p466 n467 n468 t469 n470 H
  | _ => none
def L_around_a0 (R : Type) (k n : Nat) (vals : List Value) (H : Heap) (K : Xit → Env → Heap → Option R) : Option R := L_around_aa0 (L_around_l0 k) n vals H K
def L_around_aa1 {R : Type} (f : (Option Addr → Option Addr → Int → Int → Bool → Int → Heap → Option R) → (Bool → Heap → Option R) → Nat → Option Addr → Option Addr → Int → Int → Bool → Int → Int → Heap → Option R) (n : Nat) (vals : List Value) (H : Heap) (K : Xit → Env → Heap → Option R) : Option R :=
  match vals with
  | [.pointer p471, .pointer p472, .int .i64 n473, .int .i64 n474, .bool t475, .int .i64 n476, .int .i64 n477] => f (fun p1353 p1354 n1355 n1356 t1357 n1358 H => K (.exit 2) [(0, .pointer p1353), (1, .pointer p1354), (2, .int .i64 n1355), (3, .int .i64 n1356), (4, .bool t1357), (11, .int .i64 n1358)] H) (fun t1359 H => K .ret [(10, .bool t1359)] H) n p471 p472 n473 n474 t475 n476 n477 H
  | _ => none
def L_around_a1 (R : Type) (k n : Nat) (vals : List Value) (H : Heap) (K : Xit → Env → Heap → Option R) : Option R := L_around_aa1 (L_around_l1 k) n vals H K
def L_around_aa2 {R : Type} (f : Option Addr → Option Addr → Int → Int → Bool → Int → Int → Heap → (Option Addr → Option Addr → Int → Int → Bool → Int → Int → Heap → Option R) → (Bool → Heap → Option R) → Option R) (n : Nat) (vals : List Value) (H : Heap) (K : Xit → Env → Heap → Option R) : Option R :=
  match vals with
  | [.pointer p478, .pointer p479, .int .i64 n480, .int .i64 n481, .bool t482, .int .i64 n483, .int .i64 n484] => f p478 p479 n480 n481 t482 n483 n484 H (fun p1360 p1361 n1362 n1363 t1364 n1365 n1366 H => K .normal [(0, .pointer p1360), (1, .pointer p1361), (2, .int .i64 n1362), (3, .int .i64 n1363), (4, .bool t1364), (11, .int .i64 n1365), (12, .int .i64 n1366)] H) (fun t1367 H => K .ret [(10, .bool t1367)] H)
  | _ => none
def L_around_a2 (R : Type) (k n : Nat) (vals : List Value) (H : Heap) (K : Xit → Env → Heap → Option R) : Option R := L_around_aa2 (L_around_p2 k) n vals H K
def L_around_Jt {R : Type} (k : Nat) (L_around_l0 : (Heap → Option R) → (Bool → Heap → Option R) → Nat → Option Addr → Option Addr → Int → Int → Bool → Int → Heap → Option R) (L_around_l1 : (Option Addr → Option Addr → Int → Int → Bool → Int → Heap → Option R) → (Bool → Heap → Option R) → Nat → Option Addr → Option Addr → Int → Int → Bool → Int → Int → Heap → Option R) (L_around_p2 : Option Addr → Option Addr → Int → Int → Bool → Int → Int → Heap → (Option Addr → Option Addr → Int → Int → Bool → Int → Int → Heap → Option R) → (Bool → Heap → Option R) → Option R) : JTab R := tcons 0 (L_around_aa0 L_around_l0 k) <| tcons 1 (L_around_aa1 L_around_l1 k) <| tcons 2 (L_around_aa2 L_around_p2 k) <| fun _ _ _ _ => none
def L_around_J (R : Type) (k : Nat) : JTab R := L_around_Jt k (L_around_l0 k) (L_around_l1 k) (L_around_p2 k)
def L_around_at : AT := (.seq (.reg [0, 1, 2, 3, 4] []) (.seq (.seq (.reg [0, 1, 2, 3, 4, 11] []) (.node (.opq 0 [0, 1, 2, 3, 4, 11] ⟨[], [(0, [])], [10]⟩ (.node (.seq (.seq (.reg [0, 1, 2, 3, 4, 11, 25] []) (.cond .leaf .leaf)) (.seq (.node (.seq (.reg [0, 1, 2, 3, 4, 11, 12] []) (.node (.opq 1 [0, 1, 2, 3, 4, 11, 12] ⟨[], [(2, [0, 1, 2, 3, 4, 11])], [10]⟩ (.node (.seq (.seq (.reg [0, 1, 2, 3, 4, 11, 12, 30] []) (.cond .leaf .leaf)) (.seq (.opq 2 [0, 1, 2, 3, 4, 11, 12] ⟨[0, 1, 2, 3, 4, 11, 12], [], [10]⟩ (.node (.seq (.reg [0, 1, 2, 3, 4, 11, 12, 13, 14, 15] []) (.seq (.reg [0, 1, 2, 3, 4, 11, 12, 13, 14, 15, 16, 17, 18] []) (.seq (.reg [0, 1, 2, 3, 4, 11, 12, 13, 14, 15, 16, 17, 18, 19, 20] []) (.seq (.reg [0, 1, 2, 3, 4, 11, 12, 13, 14, 15, 16, 17, 18, 19, 20, 21, 22] []) (.seq (.reg [0, 1, 2, 3, 4, 11, 12, 89] []) (.cond (.seq (.reg [10] []) .leaf) .leaf)))))))) (.reg [0, 1, 2, 3, 4, 11, 12] [])))))))) (.reg [0, 1, 2, 3, 4, 11] []))))))) (.seq (.reg [10] []) .leaf)))
def L_around_i2 : IC := (.block 3 (.seq (.reg [⟨some 34, .mov (.t 0), none⟩,
 ⟨some 35, .mov (.t 12), none⟩,
 ⟨some 36, .mov (.t 11), none⟩,
 ⟨some 37, .mov (.t 4), none⟩,
 ⟨some 38, .call 29 [(.t 34), (.t 35), (.t 36), (.t 37)] (.tup [(.sc (.int .i64)), (.sc (.int .i64)), (.sc (.int .i64))]), none⟩,
 ⟨some 33, .mov (.t 38), none⟩,
 ⟨some 39, .ext 0 (.t 33), none⟩,
 ⟨some 40, .ext 1 (.t 33), none⟩,
 ⟨some 41, .ext 2 (.t 33), none⟩,
 ⟨some 13, .mov (.t 39), none⟩,
 ⟨some 14, .mov (.t 40), none⟩,
 ⟨some 15, .mov (.t 41), none⟩] [0, 1, 2, 3, 4, 11, 12, 13, 14, 15]) (.seq (.reg [⟨some 43, .mov (.t 1), none⟩,
 ⟨some 44, .mov (.t 12), none⟩,
 ⟨some 45, .mov (.t 11), none⟩,
 ⟨some 46, .mov (.t 4), none⟩,
 ⟨some 47, .call 44 [(.t 43), (.t 44), (.t 45), (.t 46)] (.tup [(.sc (.int .i64)), (.sc (.int .i64)), (.sc (.int .i64))]), none⟩,
 ⟨some 42, .mov (.t 47), none⟩,
 ⟨some 48, .ext 0 (.t 42), none⟩,
 ⟨some 49, .ext 1 (.t 42), none⟩,
 ⟨some 50, .ext 2 (.t 42), none⟩,
 ⟨some 16, .mov (.t 48), none⟩,
 ⟨some 17, .mov (.t 49), none⟩,
 ⟨some 18, .mov (.t 50), none⟩] [0, 1, 2, 3, 4, 11, 12, 13, 14, 15, 16, 17, 18]) (.seq (.reg [⟨some 52, .mov (.t 0), none⟩,
 ⟨some 53, .mov (.t 12), none⟩,
 ⟨some 54, .mov (.t 11), none⟩,
 ⟨some 55, .mov (.t 4), none⟩,
 ⟨some 56, .call 30 [(.t 52), (.t 53), (.t 54), (.t 55)] (.tup [(.sc (.int .i64)), (.sc (.int .i64))]), none⟩,
 ⟨some 51, .mov (.t 56), none⟩,
 ⟨some 57, .ext 0 (.t 51), none⟩,
 ⟨some 58, .ext 1 (.t 51), none⟩,
 ⟨some 19, .mov (.t 57), none⟩,
 ⟨some 20, .mov (.t 58), none⟩] [0, 1, 2, 3, 4, 11, 12, 13, 14, 15, 16, 17, 18, 19, 20]) (.seq (.reg [⟨some 60, .mov (.t 1), none⟩,
 ⟨some 61, .mov (.t 12), none⟩,
 ⟨some 62, .mov (.t 11), none⟩,
 ⟨some 63, .mov (.t 4), none⟩,
 ⟨some 64, .call 45 [(.t 60), (.t 61), (.t 62), (.t 63)] (.tup [(.sc (.int .i64)), (.sc (.int .i64))]), none⟩,
 ⟨some 59, .mov (.t 64), none⟩,
 ⟨some 65, .ext 0 (.t 59), none⟩,
 ⟨some 66, .ext 1 (.t 59), none⟩,
 ⟨some 21, .mov (.t 65), none⟩,
 ⟨some 22, .mov (.t 66), none⟩] [0, 1, 2, 3, 4, 11, 12, 13, 14, 15, 16, 17, 18, 19, 20, 21, 22]) (.seq (.reg [⟨some 67, .mov (.t 13), none⟩,
 ⟨some 68, .mov (.t 16), none⟩,
 ⟨some 69, .cmp .neq (.t 67) (.t 68), none⟩,
 ⟨some 70, .mov (.t 69), none⟩,
 ⟨some 71, .mov (.t 14), some (70, false)⟩,
 ⟨some 72, .mov (.t 17), some (70, false)⟩,
 ⟨some 73, .cmp .neq (.t 71) (.t 72), some (70, false)⟩,
 ⟨some 74, .pick (.t 70) (.c (Go.Value.bool true)) (.t 73), none⟩,
 ⟨some 75, .mov (.t 74), none⟩,
 ⟨some 76, .mov (.t 15), some (75, false)⟩,
 ⟨some 77, .mov (.t 18), some (75, false)⟩,
 ⟨some 78, .cmp .neq (.t 76) (.t 77), some (75, false)⟩,
 ⟨some 79, .pick (.t 75) (.c (Go.Value.bool true)) (.t 78), none⟩,
 ⟨some 80, .mov (.t 79), none⟩,
 ⟨some 81, .mov (.t 19), some (80, false)⟩,
 ⟨some 82, .mov (.t 21), some (80, false)⟩,
 ⟨some 83, .cmp .neq (.t 81) (.t 82), some (80, false)⟩,
 ⟨some 84, .pick (.t 80) (.c (Go.Value.bool true)) (.t 83), none⟩,
 ⟨some 85, .mov (.t 84), none⟩,
 ⟨some 86, .mov (.t 20), some (85, false)⟩,
 ⟨some 87, .mov (.t 22), some (85, false)⟩,
 ⟨some 88, .cmp .neq (.t 86) (.t 87), some (85, false)⟩,
 ⟨some 89, .pick (.t 85) (.c (Go.Value.bool true)) (.t 88), none⟩] [0, 1, 2, 3, 4, 11, 12, 89]) (.cond (.t 89) (.seq (.reg [⟨some 10, .mov (.c (Go.Value.bool false)), none⟩] [10]) .ret) .skip)))))))
def L_around_i1 : IC := (.seq (.seq (.reg [⟨some 28, .mov (.t 12), none⟩,
 ⟨some 29, .mov (.t 2), none⟩,
 ⟨some 30, .cmp .leq (.t 28) (.t 29), none⟩] [0, 1, 2, 3, 4, 11, 12, 30]) (.cond (.t 30) .skip (.exit 2))) (.seq (.opq 2 [0, 1, 2, 3, 4, 11, 12] L_around_i2) (.reg [⟨some 31, .mov (.t 12), none⟩,
 ⟨some 32, .bin .add .i64 (.t 31) (.c (Go.Value.int Go.IntKind.i64 1)), none⟩,
 ⟨some 12, .mov (.t 32), none⟩] [0, 1, 2, 3, 4, 11, 12])))
def L_around_i0 : IC := (.seq (.seq (.reg [⟨some 23, .mov (.t 11), none⟩,
 ⟨some 24, .mov (.t 3), none⟩,
 ⟨some 25, .cmp .leq (.t 23) (.t 24), none⟩] [0, 1, 2, 3, 4, 11, 25]) (.cond (.t 25) .skip (.exit 0))) (.seq (.block 1 (.seq (.reg [⟨some 12, .mov (.c (Go.Value.int Go.IntKind.i64 (-1))), none⟩] [0, 1, 2, 3, 4, 11, 12]) (.block 2 (.opq 1 [0, 1, 2, 3, 4, 11, 12] (.loop L_around_i1))))) (.reg [⟨some 26, .mov (.t 11), none⟩,
 ⟨some 27, .bin .add .i64 (.t 26) (.c (Go.Value.int Go.IntKind.i64 1)), none⟩,
 ⟨some 11, .mov (.t 27), none⟩] [0, 1, 2, 3, 4, 11])))
def L_around_f : IFn := ⟨90, [.t 10], (.seq (.reg [⟨some 10, .mov (.c (Go.Value.bool false)), none⟩] [0, 1, 2, 3, 4]) (.seq (.seq (.reg [⟨some 11, .mov (.c (Go.Value.int Go.IntKind.i64 (-1))), none⟩] [0, 1, 2, 3, 4, 11]) (.block 0 (.opq 0 [0, 1, 2, 3, 4, 11] (.loop L_around_i0)))) (.seq (.reg [⟨some 10, .mov (.c (Go.Value.bool true)), none⟩] [10]) .ret)))⟩
theorem L_around_e2 {R : Type} (cblk_Block_Neighbors : Option Addr → Int → Int → Bool → Heap → (Int → Int → Int → Option R) → Option R) (R14_Block_Neighbors : Option Addr → Int → Int → Bool → Heap → (Int → Int → Int → Heap → Option R) → Option R) (cblk_Block_Signs : Option Addr → Int → Int → Bool → Heap → (Int → Int → Option R) → Option R) (R14_Block_Signs : Option Addr → Int → Int → Bool → Heap → (Int → Int → Heap → Option R) → Option R) (L_around_l0 : (Heap → Option R) → (Bool → Heap → Option R) → Nat → Option Addr → Option Addr → Int → Int → Bool → Int → Heap → Option R) (L_around_l1 : (Option Addr → Option Addr → Int → Int → Bool → Int → Heap → Option R) → (Bool → Heap → Option R) → Nat → Option Addr → Option Addr → Int → Int → Bool → Int → Int → Heap → Option R) (L_around_p2 : Option Addr → Option Addr → Int → Int → Bool → Int → Int → Heap → (Option Addr → Option Addr → Int → Int → Bool → Int → Int → Heap → Option R) → (Bool → Heap → Option R) → Option R) (k : Nat) (p478 : Option Addr) (p479 : Option Addr) (n480 : Int) (n481 : Int) (t482 : Bool) (n483 : Int) (n484 : Int) (H : Heap) (K : Xit → Env → Heap → Option R) : evJ (L_around_Ct cblk_Block_Neighbors R14_Block_Neighbors cblk_Block_Signs R14_Block_Signs) (L_around_Jt k L_around_l0 L_around_l1 L_around_p2) L_around_i2 (List.zip [0, 1, 2, 3, 4, 11, 12] [.pointer p478, .pointer p479, .int .i64 n480, .int .i64 n481, .bool t482, .int .i64 n483, .int .i64 n484]) H (fun x e' H' => K x (clean e' ((⟨[0, 1, 2, 3, 4, 11, 12], [], [10]⟩ : Out).of x)) H') = L_around_p2_b cblk_Block_Neighbors R14_Block_Neighbors cblk_Block_Signs R14_Block_Signs k p478 p479 n480 n481 t482 n483 n484 H (fun p1360 p1361 n1362 n1363 t1364 n1365 n1366 H => K .normal [(0, .pointer p1360), (1, .pointer p1361), (2, .int .i64 n1362), (3, .int .i64 n1363), (4, .bool t1364), (11, .int .i64 n1365), (12, .int .i64 n1366)] H) (fun t1367 H => K .ret [(10, .bool t1367)] H) := by kernel_rfl
theorem L_around_j2 {R : Type} (k : Nat) : JS Try.prog 90 (L_around_a2 R k k) [0, 1, 2, 3, 4, 11, 12] ⟨[0, 1, 2, 3, 4, 11, 12], [], [10]⟩ (sel [1, 0, 1, 0, 0, 1, 0, 0, 1, 0, 0, 1, 0] (Try.f24.body.getD .skip)) :=
  piece_ok (nt := 90) (c := (sel [1, 0, 1, 0, 0, 1, 0, 0, 1, 0, 0, 1, 0] (Try.f24.body.getD .skip))) (C := L_around_C R k) (an := An) (t := (.node (.seq (.reg [0, 1, 2, 3, 4, 11, 12, 13, 14, 15] []) (.seq (.reg [0, 1, 2, 3, 4, 11, 12, 13, 14, 15, 16, 17, 18] []) (.seq (.reg [0, 1, 2, 3, 4, 11, 12, 13, 14, 15, 16, 17, 18, 19, 20] []) (.seq (.reg [0, 1, 2, 3, 4, 11, 12, 13, 14, 15, 16, 17, 18, 19, 20, 21, 22] []) (.seq (.reg [0, 1, 2, 3, 4, 11, 12, 89] []) (.cond (.seq (.reg [10] []) .leaf) .leaf)))))))) (ic := L_around_i2) (L_around_S R k) (L_around_J R k) (by kernel_rfl) (And.intro True.intro (And.intro True.intro (And.intro True.intro (And.intro True.intro (And.intro True.intro (And.intro (And.intro True.intro True.intro) True.intro)))))) (L_around_a2 R k k)
    (fun vals H K r h => by
      unfold L_around_a2 L_around_aa2 at h
      split at h <;> first | (cases h; done) | exact Eq.trans (L_around_e2 (cblk_Block_Neighbors k) (R14_Block_Neighbors k) (cblk_Block_Signs k) (R14_Block_Signs k) (L_around_l0 k) (L_around_l1 k) (L_around_p2 k) k _ _ _ _ _ _ _ H K) h)
theorem L_around_e1 {R : Type} (cblk_Block_Neighbors : Option Addr → Int → Int → Bool → Heap → (Int → Int → Int → Option R) → Option R) (R14_Block_Neighbors : Option Addr → Int → Int → Bool → Heap → (Int → Int → Int → Heap → Option R) → Option R) (cblk_Block_Signs : Option Addr → Int → Int → Bool → Heap → (Int → Int → Option R) → Option R) (R14_Block_Signs : Option Addr → Int → Int → Bool → Heap → (Int → Int → Heap → Option R) → Option R) (L_around_l0 : (Heap → Option R) → (Bool → Heap → Option R) → Nat → Option Addr → Option Addr → Int → Int → Bool → Int → Heap → Option R) (L_around_l1 : (Option Addr → Option Addr → Int → Int → Bool → Int → Heap → Option R) → (Bool → Heap → Option R) → Nat → Option Addr → Option Addr → Int → Int → Bool → Int → Int → Heap → Option R) (L_around_p2 : Option Addr → Option Addr → Int → Int → Bool → Int → Int → Heap → (Option Addr → Option Addr → Int → Int → Bool → Int → Int → Heap → Option R) → (Bool → Heap → Option R) → Option R) (k n : Nat) (p471 : Option Addr) (p472 : Option Addr) (n473 : Int) (n474 : Int) (t475 : Bool) (n476 : Int) (n477 : Int) (H : Heap) (K : Xit → Env → Heap → Option R) : evJ (L_around_Ct cblk_Block_Neighbors R14_Block_Neighbors cblk_Block_Signs R14_Block_Signs) (L_around_Jt k L_around_l0 L_around_l1 L_around_p2) L_around_i1 (List.zip [0, 1, 2, 3, 4, 11, 12] [.pointer p471, .pointer p472, .int .i64 n473, .int .i64 n474, .bool t475, .int .i64 n476, .int .i64 n477]) H (fun x e' H' => match x with | .normal => L_around_aa1 L_around_l1 n ((clean e' [0, 1, 2, 3, 4, 11, 12]).map (·.2)) H' K | x => K x (clean e' ((⟨[], [(2, [0, 1, 2, 3, 4, 11])], [10]⟩ : Out).of x)) H') = L_around_l1_b L_around_p2 (L_around_l1 (fun p1353 p1354 n1355 n1356 t1357 n1358 H => K (.exit 2) [(0, .pointer p1353), (1, .pointer p1354), (2, .int .i64 n1355), (3, .int .i64 n1356), (4, .bool t1357), (11, .int .i64 n1358)] H) (fun t1359 H => K .ret [(10, .bool t1359)] H) n) (fun p1353 p1354 n1355 n1356 t1357 n1358 H => K (.exit 2) [(0, .pointer p1353), (1, .pointer p1354), (2, .int .i64 n1355), (3, .int .i64 n1356), (4, .bool t1357), (11, .int .i64 n1358)] H) (fun t1359 H => K .ret [(10, .bool t1359)] H) k p471 p472 n473 n474 t475 n476 n477 H := by kernel_rfl
theorem L_around_j1 {R : Type} (k : Nat) : JS Try.prog 90 (L_around_a1 R k k) [0, 1, 2, 3, 4, 11, 12] ⟨[], [(2, [0, 1, 2, 3, 4, 11])], [10]⟩ (.loop (sel [1, 0, 1, 0, 0, 1, 0, 0, 1, 0, 0] (Try.f24.body.getD .skip))) :=
  loop_ok (nt := 90) (c := (sel [1, 0, 1, 0, 0, 1, 0, 0, 1, 0, 0] (Try.f24.body.getD .skip))) (C := L_around_C R k) (an := An) (t := (.seq (.seq (.reg [0, 1, 2, 3, 4, 11, 12, 30] []) (.cond .leaf .leaf)) (.seq (.opq 2 [0, 1, 2, 3, 4, 11, 12] ⟨[0, 1, 2, 3, 4, 11, 12], [], [10]⟩ (.node (.seq (.reg [0, 1, 2, 3, 4, 11, 12, 13, 14, 15] []) (.seq (.reg [0, 1, 2, 3, 4, 11, 12, 13, 14, 15, 16, 17, 18] []) (.seq (.reg [0, 1, 2, 3, 4, 11, 12, 13, 14, 15, 16, 17, 18, 19, 20] []) (.seq (.reg [0, 1, 2, 3, 4, 11, 12, 13, 14, 15, 16, 17, 18, 19, 20, 21, 22] []) (.seq (.reg [0, 1, 2, 3, 4, 11, 12, 89] []) (.cond (.seq (.reg [10] []) .leaf) .leaf)))))))) (.reg [0, 1, 2, 3, 4, 11, 12] [])))) (ic := L_around_i1) (L_around_S R k) (L_around_J R k) (by kernel_rfl) (And.intro (And.intro True.intro (And.intro True.intro True.intro)) (And.intro (L_around_j2 k) True.intro)) (L_around_a1 R k) (fun vals H K => by unfold L_around_a1 L_around_aa1; split <;> rfl)
    (fun n vals H K r h => by
      unfold L_around_a1 L_around_aa1 at h
      split at h <;> first | (cases h; done) | exact Eq.trans (L_around_e1 (cblk_Block_Neighbors k) (R14_Block_Neighbors k) (cblk_Block_Signs k) (R14_Block_Signs k) (L_around_l0 k) (L_around_l1 k) (L_around_p2 k) k n _ _ _ _ _ _ _ H K) h) k
theorem L_around_e0 {R : Type} (cblk_Block_Neighbors : Option Addr → Int → Int → Bool → Heap → (Int → Int → Int → Option R) → Option R) (R14_Block_Neighbors : Option Addr → Int → Int → Bool → Heap → (Int → Int → Int → Heap → Option R) → Option R) (cblk_Block_Signs : Option Addr → Int → Int → Bool → Heap → (Int → Int → Option R) → Option R) (R14_Block_Signs : Option Addr → Int → Int → Bool → Heap → (Int → Int → Heap → Option R) → Option R) (L_around_l0 : (Heap → Option R) → (Bool → Heap → Option R) → Nat → Option Addr → Option Addr → Int → Int → Bool → Int → Heap → Option R) (L_around_l1 : (Option Addr → Option Addr → Int → Int → Bool → Int → Heap → Option R) → (Bool → Heap → Option R) → Nat → Option Addr → Option Addr → Int → Int → Bool → Int → Int → Heap → Option R) (L_around_p2 : Option Addr → Option Addr → Int → Int → Bool → Int → Int → Heap → (Option Addr → Option Addr → Int → Int → Bool → Int → Int → Heap → Option R) → (Bool → Heap → Option R) → Option R) (k n : Nat) (p465 : Option Addr) (p466 : Option Addr) (n467 : Int) (n468 : Int) (t469 : Bool) (n470 : Int) (H : Heap) (K : Xit → Env → Heap → Option R) : evJ (L_around_Ct cblk_Block_Neighbors R14_Block_Neighbors cblk_Block_Signs R14_Block_Signs) (L_around_Jt k L_around_l0 L_around_l1 L_around_p2) L_around_i0 (List.zip [0, 1, 2, 3, 4, 11] [.pointer p465, .pointer p466, .int .i64 n467, .int .i64 n468, .bool t469, .int .i64 n470]) H (fun x e' H' => match x with | .normal => L_around_aa0 L_around_l0 n ((clean e' [0, 1, 2, 3, 4, 11]).map (·.2)) H' K | x => K x (clean e' ((⟨[], [(0, [])], [10]⟩ : Out).of x)) H') = L_around_l0_b L_around_l1 (L_around_l0 (fun H => K (.exit 0) [] H) (fun t1352 H => K .ret [(10, .bool t1352)] H) n) (fun H => K (.exit 0) [] H) (fun t1352 H => K .ret [(10, .bool t1352)] H) k p465 p466 n467 n468 t469 n470 H := by kernel_rfl
theorem L_around_j0 {R : Type} (k : Nat) : JS Try.prog 90 (L_around_a0 R k k) [0, 1, 2, 3, 4, 11] ⟨[], [(0, [])], [10]⟩ (.loop (sel [1, 0, 1, 0, 0] (Try.f24.body.getD .skip))) :=
  loop_ok (nt := 90) (c := (sel [1, 0, 1, 0, 0] (Try.f24.body.getD .skip))) (C := L_around_C R k) (an := An) (t := (.seq (.seq (.reg [0, 1, 2, 3, 4, 11, 25] []) (.cond .leaf .leaf)) (.seq (.node (.seq (.reg [0, 1, 2, 3, 4, 11, 12] []) (.node (.opq 1 [0, 1, 2, 3, 4, 11, 12] ⟨[], [(2, [0, 1, 2, 3, 4, 11])], [10]⟩ (.node (.seq (.seq (.reg [0, 1, 2, 3, 4, 11, 12, 30] []) (.cond .leaf .leaf)) (.seq (.opq 2 [0, 1, 2, 3, 4, 11, 12] ⟨[0, 1, 2, 3, 4, 11, 12], [], [10]⟩ (.node (.seq (.reg [0, 1, 2, 3, 4, 11, 12, 13, 14, 15] []) (.seq (.reg [0, 1, 2, 3, 4, 11, 12, 13, 14, 15, 16, 17, 18] []) (.seq (.reg [0, 1, 2, 3, 4, 11, 12, 13, 14, 15, 16, 17, 18, 19, 20] []) (.seq (.reg [0, 1, 2, 3, 4, 11, 12, 13, 14, 15, 16, 17, 18, 19, 20, 21, 22] []) (.seq (.reg [0, 1, 2, 3, 4, 11, 12, 89] []) (.cond (.seq (.reg [10] []) .leaf) .leaf)))))))) (.reg [0, 1, 2, 3, 4, 11, 12] [])))))))) (.reg [0, 1, 2, 3, 4, 11] [])))) (ic := L_around_i0) (L_around_S R k) (L_around_J R k) (by kernel_rfl) (And.intro (And.intro True.intro (And.intro True.intro True.intro)) (And.intro (And.intro True.intro (L_around_j1 k)) True.intro)) (L_around_a0 R k) (fun vals H K => by unfold L_around_a0 L_around_aa0; split <;> rfl)
    (fun n vals H K r h => by
      unfold L_around_a0 L_around_aa0 at h
      split at h <;> first | (cases h; done) | exact Eq.trans (L_around_e0 (cblk_Block_Neighbors k) (R14_Block_Neighbors k) (cblk_Block_Signs k) (R14_Block_Signs k) (L_around_l0 k) (L_around_l1 k) (L_around_p2 k) k n _ _ _ _ _ _ H K) h) k
def L_around_ca {R : Type} (f : Option Addr → Option Addr → Int → Int → Bool → Heap → (Bool → Heap → Option R) → Option R) (args : List Value) (H : Heap) (K : Value → Heap → Option R) : Option R :=
  match args with
  | [.pointer p460, .pointer p461, .int .i64 n462, .int .i64 n463, .bool t464] => f p460 p461 n462 n463 t464 H (fun t1368 H => K (.bool t1368) H)
  | _ => none
def L_around_c (R : Type) (k : Nat) (args : List Value) (H : Heap) (K : Value → Heap → Option R) : Option R := L_around_ca (L_around k) args H K
theorem L_around_e {R : Type} (cblk_Block_Neighbors : Option Addr → Int → Int → Bool → Heap → (Int → Int → Int → Option R) → Option R) (R14_Block_Neighbors : Option Addr → Int → Int → Bool → Heap → (Int → Int → Int → Heap → Option R) → Option R) (cblk_Block_Signs : Option Addr → Int → Int → Bool → Heap → (Int → Int → Option R) → Option R) (R14_Block_Signs : Option Addr → Int → Int → Bool → Heap → (Int → Int → Heap → Option R) → Option R) (L_around_l0 : (Heap → Option R) → (Bool → Heap → Option R) → Nat → Option Addr → Option Addr → Int → Int → Bool → Int → Heap → Option R) (L_around_l1 : (Option Addr → Option Addr → Int → Int → Bool → Int → Heap → Option R) → (Bool → Heap → Option R) → Nat → Option Addr → Option Addr → Int → Int → Bool → Int → Int → Heap → Option R) (L_around_p2 : Option Addr → Option Addr → Int → Int → Bool → Int → Int → Heap → (Option Addr → Option Addr → Int → Int → Bool → Int → Int → Heap → Option R) → (Bool → Heap → Option R) → Option R) (k : Nat) (p460 : Option Addr) (p461 : Option Addr) (n462 : Int) (n463 : Int) (t464 : Bool) (H : Heap) (K : Value → Heap → Option R) : evF (L_around_Ct cblk_Block_Neighbors R14_Block_Neighbors cblk_Block_Signs R14_Block_Signs) (L_around_Jt k L_around_l0 L_around_l1 L_around_p2) L_around_f [.pointer p460, .pointer p461, .int .i64 n462, .int .i64 n463, .bool t464] H K = L_around_b L_around_l0 k p460 p461 n462 n463 t464 H (fun t1368 H => K (.bool t1368) H) := by kernel_rfl
theorem L_around_cs (R : Type) (k : Nat) : ∀ args H K r, L_around_c R k args H K = some r → ∃ v H', Tri Try.prog 24 args H v H' ∧ K v H' = some r := by
  intro args H K r h
  unfold L_around_c L_around_ca at h
  split at h
  · exact evF_ok (C := L_around_C R k) (an := An) (t := L_around_at) (fn := Try.f24) (c := (Try.f24.body.getD .skip)) (ifn := L_around_f) (L_around_S R k) (L_around_J R k) Try.func24 (by kernel_rfl) (by kernel_rfl) (And.intro True.intro (And.intro (And.intro True.intro (L_around_j0 k)) (And.intro True.intro True.intro))) rfl (Eq.trans (L_around_e (cblk_Block_Neighbors k) (R14_Block_Neighbors k) (cblk_Block_Signs k) (R14_Block_Signs k) (L_around_l0 k) (L_around_l1 k) (L_around_p2 k) k _ _ _ _ _ H K) h)
  · cases h
/-! ### L_CblkNeighbors: function 6 -/
def L_CblkNeighbors_b {R : Type} (L_small : Int → Int → Option Addr → Nat → Nat → (Bool → Option R) → Option R) (L_exampleHoldsq : (Bool → Option R) → Option R) (L_played : Int → Int → Option Addr → Nat → Nat → Heap → (Option Addr → Option Addr → Heap → Option R) → Option R) (L_around : Option Addr → Option Addr → Int → Int → Bool → Heap → (Bool → Heap → Option R) → Option R) (k : Nat) (n406 : Int) (n407 : Int) (q408 : Option Addr) (l409 : Nat) (c410 : Nat) (H : Heap) (K : Bool → Heap → Option R) : Option R :=
L_small n406 n407 q408 l409 c410 fun t411 =>
bif (!t411) then (L_exampleHoldsq fun t412 =>
K t412 H)
 else (L_played n406 n407 q408 l409 c410 H fun p413 p414 H415 =>
L_around p413 p414 n406 n407 false H415 fun t416 H417 =>
bif t416 then (L_around p413 p414 n406 n407 true H417 fun t418 H419 =>
bif t418 then (L_exampleHoldsq fun t420 =>
K t420 H419)
 else (K false H419))
 else (K false H417))

def L_CblkNeighbors {R : Type} (k : Nat) (n406 : Int) (n407 : Int) (q408 : Option Addr) (l409 : Nat) (c410 : Nat) (H : Heap) (K : Bool → Heap → Option R) : Option R := L_CblkNeighbors_b L_small L_exampleHoldsq (L_played k) (L_around k) k n406 n407 q408 l409 c410 H K

def L_CblkNeighbors_Ct {R : Type} (L_small : Int → Int → Option Addr → Nat → Nat → (Bool → Option R) → Option R) (L_exampleHoldsq : (Bool → Option R) → Option R) (L_played : Int → Int → Option Addr → Nat → Nat → Heap → (Option Addr → Option Addr → Heap → Option R) → Option R) (L_around : Option Addr → Option Addr → Int → Int → Bool → Heap → (Bool → Heap → Option R) → Option R) : Tab R := tcons 22 (L_small_ca L_small) <| tcons 14 (L_exampleHoldsq_ca L_exampleHoldsq) <| tcons 23 (L_played_ca L_played) <| tcons 24 (L_around_ca L_around) <| fun _ _ _ _ => none
def L_CblkNeighbors_C (R : Type) (k : Nat) : Tab R := L_CblkNeighbors_Ct L_small L_exampleHoldsq (L_played k) (L_around k)
theorem L_CblkNeighbors_S (R : Type) (k : Nat) : CSound Try.prog (L_CblkNeighbors_C R k) := csound_cons (L_small_cs R k) <| csound_cons (L_exampleHoldsq_cs R k) <| csound_cons (L_played_cs R k) <| csound_cons (L_around_cs R k) <| csound_nil
def L_CblkNeighbors_Jt {R : Type} (k : Nat) : JTab R := fun _ _ _ _ => none
def L_CblkNeighbors_J (R : Type) (k : Nat) : JTab R := L_CblkNeighbors_Jt k
def L_CblkNeighbors_at : AT := (.seq (.reg [0, 1, 2] []) (.seq (.seq (.reg [0, 1, 2, 13] []) (.cond (.seq (.reg [6] []) .leaf) .leaf)) (.seq (.reg [0, 1, 7, 8] []) (.seq (.reg [6] []) .leaf))))
def L_CblkNeighbors_f : IFn := ⟨37, [.t 6], (.seq (.reg [⟨some 6, .mov (.c (Go.Value.bool false)), none⟩] [0, 1, 2]) (.seq (.seq (.reg [⟨some 9, .mov (.t 0), none⟩,
 ⟨some 10, .mov (.t 1), none⟩,
 ⟨some 11, .mov (.t 2), none⟩,
 ⟨some 12, .call 22 [(.t 9), (.t 10), (.t 11)] (.one (.sc .bool)), none⟩,
 ⟨some 13, .lnot (.t 12), none⟩] [0, 1, 2, 13]) (.cond (.t 13) (.seq (.reg [⟨some 14, .call 14 [] (.one (.sc .bool)), none⟩,
 ⟨some 6, .mov (.t 14), none⟩] [6]) .ret) .skip)) (.seq (.reg [⟨some 16, .mov (.t 0), none⟩,
 ⟨some 17, .mov (.t 1), none⟩,
 ⟨some 18, .mov (.t 2), none⟩,
 ⟨some 19, .call 23 [(.t 16), (.t 17), (.t 18)] (.tup [(.sc .ptr), (.sc .ptr)]), none⟩,
 ⟨some 15, .mov (.t 19), none⟩,
 ⟨some 20, .ext 0 (.t 15), none⟩,
 ⟨some 21, .ext 1 (.t 15), none⟩,
 ⟨some 7, .mov (.t 20), none⟩,
 ⟨some 8, .mov (.t 21), none⟩] [0, 1, 7, 8]) (.seq (.reg [⟨some 22, .mov (.t 7), none⟩,
 ⟨some 23, .mov (.t 8), none⟩,
 ⟨some 24, .mov (.t 0), none⟩,
 ⟨some 25, .mov (.t 1), none⟩,
 ⟨some 26, .call 24 [(.t 22), (.t 23), (.t 24), (.t 25), (.c (Go.Value.bool false))] (.one (.sc .bool)), none⟩,
 ⟨some 27, .mov (.t 26), none⟩,
 ⟨some 28, .mov (.t 7), some (27, true)⟩,
 ⟨some 29, .mov (.t 8), some (27, true)⟩,
 ⟨some 30, .mov (.t 0), some (27, true)⟩,
 ⟨some 31, .mov (.t 1), some (27, true)⟩,
 ⟨some 32, .call 24 [(.t 28), (.t 29), (.t 30), (.t 31), (.c (Go.Value.bool true))] (.one (.sc .bool)), some (27, true)⟩,
 ⟨some 33, .pick (.t 27) (.t 32) (.c (Go.Value.bool false)), none⟩,
 ⟨some 34, .mov (.t 33), none⟩,
 ⟨some 35, .call 14 [] (.one (.sc .bool)), some (34, true)⟩,
 ⟨some 36, .pick (.t 34) (.t 35) (.c (Go.Value.bool false)), none⟩,
 ⟨some 6, .mov (.t 36), none⟩] [6]) .ret))))⟩
def L_CblkNeighbors_ca {R : Type} (f : Int → Int → Option Addr → Nat → Nat → Heap → (Bool → Heap → Option R) → Option R) (args : List Value) (H : Heap) (K : Value → Heap → Option R) : Option R :=
  match args with
  | [.int .i64 n406, .int .i64 n407, .slice q408 l409 c410] => f n406 n407 q408 l409 c410 H (fun t1369 H => K (.bool t1369) H)
  | _ => none
def L_CblkNeighbors_c (R : Type) (k : Nat) (args : List Value) (H : Heap) (K : Value → Heap → Option R) : Option R := L_CblkNeighbors_ca (L_CblkNeighbors k) args H K
theorem L_CblkNeighbors_e {R : Type} (L_small : Int → Int → Option Addr → Nat → Nat → (Bool → Option R) → Option R) (L_exampleHoldsq : (Bool → Option R) → Option R) (L_played : Int → Int → Option Addr → Nat → Nat → Heap → (Option Addr → Option Addr → Heap → Option R) → Option R) (L_around : Option Addr → Option Addr → Int → Int → Bool → Heap → (Bool → Heap → Option R) → Option R) (k : Nat) (n406 : Int) (n407 : Int) (q408 : Option Addr) (l409 : Nat) (c410 : Nat) (H : Heap) (K : Value → Heap → Option R) : evF (L_CblkNeighbors_Ct L_small L_exampleHoldsq L_played L_around) (L_CblkNeighbors_Jt k) L_CblkNeighbors_f [.int .i64 n406, .int .i64 n407, .slice q408 l409 c410] H K = L_CblkNeighbors_b L_small L_exampleHoldsq L_played L_around k n406 n407 q408 l409 c410 H (fun t1369 H => K (.bool t1369) H) := by kernel_rfl
theorem L_CblkNeighbors_cs (R : Type) (k : Nat) : ∀ args H K r, L_CblkNeighbors_c R k args H K = some r → ∃ v H', Tri Try.prog 6 args H v H' ∧ K v H' = some r := by
  intro args H K r h
  unfold L_CblkNeighbors_c L_CblkNeighbors_ca at h
  split at h
  · exact evF_ok (C := L_CblkNeighbors_C R k) (an := An) (t := L_CblkNeighbors_at) (fn := Try.f6) (c := (Try.f6.body.getD .skip)) (ifn := L_CblkNeighbors_f) (L_CblkNeighbors_S R k) (L_CblkNeighbors_J R k) Try.func6 (by kernel_rfl) (by kernel_rfl) (And.intro True.intro (And.intro (And.intro True.intro (And.intro (And.intro True.intro True.intro) True.intro)) (And.intro True.intro (And.intro True.intro True.intro)))) rfl (Eq.trans (L_CblkNeighbors_e L_small L_exampleHoldsq (L_played k) (L_around k) k _ _ _ _ _ H K) h)
  · cases h
/-! ### L_counts: function 26 -/
def L_counts_l1_b {R : Type} (cblk_Block_Neighbors : Option Addr → Int → Int → Bool → Heap → (Int → Int → Int → Option R) → Option R) (rec : Option Addr → Int → Int → Bool → Option Addr → Nat → Nat → Int → Int → Heap → Option R) (KE2 : Option Addr → Int → Int → Bool → Option Addr → Nat → Nat → Int → Heap → Option R) (k : Nat) (p448 : Option Addr) (n449 : Int) (n450 : Int) (t451 : Bool) (q452 : Option Addr) (l453 : Nat) (c454 : Nat) (n455 : Int) (n456 : Int) (H : Heap) : Option R :=
bif decide (n456 < n449) then (cblk_Block_Neighbors p448 n456 n455 t451 H fun n457 n458 n459 =>
hal H [.int .i64 n457, .int .i64 n458, .int .i64 n459] fun p460 H461 =>
happS 1 8 H461 q452 l453 c454 p460 3 fun q462 l463 c464 H465 =>
rec p448 n449 n450 t451 q462 l463 c464 n455 (IntKind.wrap .i64 (n456 + 1)) H465)
 else (KE2 p448 n449 n450 t451 q452 l453 c454 n455 H)
def L_counts_l1 {R : Type} (k : Nat) (KE2 : Option Addr → Int → Int → Bool → Option Addr → Nat → Nat → Int → Heap → Option R) : Nat → Option Addr → Int → Int → Bool → Option Addr → Nat → Nat → Int → Int → Heap → Option R
  | 0, _, _, _, _, _, _, _, _, _, _ => none
  | n + 1, p448, n449, n450, t451, q452, l453, c454, n455, n456, H => L_counts_l1_b (cblk_Block_Neighbors k) (L_counts_l1 k KE2 n) KE2 k p448 n449 n450 t451 q452 l453 c454 n455 n456 H

def L_counts_l0_b {R : Type} (L_counts_l1 : (Option Addr → Int → Int → Bool → Option Addr → Nat → Nat → Int → Heap → Option R) → Nat → Option Addr → Int → Int → Bool → Option Addr → Nat → Nat → Int → Int → Heap → Option R) (rec : Option Addr → Int → Int → Bool → Option Addr → Nat → Nat → Int → Heap → Option R) (KE0 : Option Addr → Nat → Nat → Heap → Option R) (k : Nat) (p440 : Option Addr) (n441 : Int) (n442 : Int) (t443 : Bool) (q444 : Option Addr) (l445 : Nat) (c446 : Nat) (n447 : Int) (H : Heap) : Option R :=
bif decide (n447 < n442) then (L_counts_l1 (fun p474 n475 n476 t477 q478 l479 c480 n481 H482 =>
rec p474 n475 n476 t477 q478 l479 c480 (IntKind.wrap .i64 (n481 + 1)) H482) k p440 n441 n442 t443 q444 l445 c446 n447 0 H)
 else (KE0 q444 l445 c446 H)
def L_counts_l0 {R : Type} (k : Nat) (KE0 : Option Addr → Nat → Nat → Heap → Option R) : Nat → Option Addr → Int → Int → Bool → Option Addr → Nat → Nat → Int → Heap → Option R
  | 0, _, _, _, _, _, _, _, _, _ => none
  | n + 1, p440, n441, n442, t443, q444, l445, c446, n447, H => L_counts_l0_b (L_counts_l1 k) (L_counts_l0 k KE0 n) KE0 k p440 n441 n442 t443 q444 l445 c446 n447 H

def L_counts_b {R : Type} (L_counts_l0 : (Option Addr → Nat → Nat → Heap → Option R) → Nat → Option Addr → Int → Int → Bool → Option Addr → Nat → Nat → Int → Heap → Option R) (k : Nat) (p436 : Option Addr) (n437 : Int) (n438 : Int) (t439 : Bool) (H : Heap) (K : Option Addr → Nat → Nat → Heap → Option R) : Option R :=
L_counts_l0 (fun q486 l487 c488 H489 =>
K q486 l487 c488 H489) k p436 n437 n438 t439 none 0 0 0 H

def L_counts {R : Type} (k : Nat) (p436 : Option Addr) (n437 : Int) (n438 : Int) (t439 : Bool) (H : Heap) (K : Option Addr → Nat → Nat → Heap → Option R) : Option R := L_counts_b (L_counts_l0 k) k p436 n437 n438 t439 H K

def L_counts_Ct {R : Type} (cblk_Block_Neighbors : Option Addr → Int → Int → Bool → Heap → (Int → Int → Int → Option R) → Option R) : Tab R := tcons 29 (cblk_Block_Neighbors_ca cblk_Block_Neighbors) <| fun _ _ _ _ => none
def L_counts_C (R : Type) (k : Nat) : Tab R := L_counts_Ct (cblk_Block_Neighbors k)
theorem L_counts_S (R : Type) (k : Nat) : CSound Try.prog (L_counts_C R k) := csound_cons (cblk_Block_Neighbors_cs R k) <| csound_nil
def L_counts_aa0 {R : Type} (f : (Option Addr → Nat → Nat → Heap → Option R) → Nat → Option Addr → Int → Int → Bool → Option Addr → Nat → Nat → Int → Heap → Option R) (n : Nat) (vals : List Value) (H : Heap) (K : Xit → Env → Heap → Option R) : Option R :=
  match vals with
  | [.pointer p440, .int .i64 n441, .int .i64 n442, .bool t443, .slice q444 l445 c446, .int .i64 n447] => f (fun q1370 l1371 c1372 H => K (.exit 0) [(9, .slice q1370 l1371 c1372)] H) n p440 n441 n442 t443 q444 l445 c446 n447 H
  | _ => none
def L_counts_a0 (R : Type) (k n : Nat) (vals : List Value) (H : Heap) (K : Xit → Env → Heap → Option R) : Option R := L_counts_aa0 (L_counts_l0 k) n vals H K
def L_counts_aa1 {R : Type} (f : (Option Addr → Int → Int → Bool → Option Addr → Nat → Nat → Int → Heap → Option R) → Nat → Option Addr → Int → Int → Bool → Option Addr → Nat → Nat → Int → Int → Heap → Option R) (n : Nat) (vals : List Value) (H : Heap) (K : Xit → Env → Heap → Option R) : Option R :=
  match vals with
  | [.pointer p448, .int .i64 n449, .int .i64 n450, .bool t451, .slice q452 l453 c454, .int .i64 n455, .int .i64 n456] => f (fun p1373 n1374 n1375 t1376 q1377 l1378 c1379 n1380 H => K (.exit 2) [(0, .pointer p1373), (1, .int .i64 n1374), (2, .int .i64 n1375), (3, .bool t1376), (9, .slice q1377 l1378 c1379), (10, .int .i64 n1380)] H) n p448 n449 n450 t451 q452 l453 c454 n455 n456 H
  | _ => none
def L_counts_a1 (R : Type) (k n : Nat) (vals : List Value) (H : Heap) (K : Xit → Env → Heap → Option R) : Option R := L_counts_aa1 (L_counts_l1 k) n vals H K
def L_counts_Jt {R : Type} (k : Nat) (L_counts_l0 : (Option Addr → Nat → Nat → Heap → Option R) → Nat → Option Addr → Int → Int → Bool → Option Addr → Nat → Nat → Int → Heap → Option R) (L_counts_l1 : (Option Addr → Int → Int → Bool → Option Addr → Nat → Nat → Int → Heap → Option R) → Nat → Option Addr → Int → Int → Bool → Option Addr → Nat → Nat → Int → Int → Heap → Option R) : JTab R := tcons 0 (L_counts_aa0 L_counts_l0 k) <| tcons 1 (L_counts_aa1 L_counts_l1 k) <| fun _ _ _ _ => none
def L_counts_J (R : Type) (k : Nat) : JTab R := L_counts_Jt k (L_counts_l0 k) (L_counts_l1 k)
def L_counts_at : AT := (.seq (.reg [0, 1, 2, 3] []) (.seq (.reg [0, 1, 2, 3, 9] []) (.seq (.seq (.reg [0, 1, 2, 3, 9, 10] []) (.node (.opq 0 [0, 1, 2, 3, 9, 10] ⟨[], [(0, [9])], []⟩ (.node (.seq (.seq (.reg [0, 1, 2, 3, 9, 10, 17] []) (.cond .leaf .leaf)) (.seq (.node (.seq (.reg [0, 1, 2, 3, 9, 10, 11] []) (.node (.opq 1 [0, 1, 2, 3, 9, 10, 11] ⟨[], [(2, [0, 1, 2, 3, 9, 10])], []⟩ (.node (.seq (.seq (.reg [0, 1, 2, 3, 9, 10, 11, 22] []) (.cond .leaf .leaf)) (.seq (.node (.seq (.reg [0, 1, 2, 3, 9, 10, 11, 12, 13, 14] []) (.reg [0, 1, 2, 3, 9, 10, 11] []))) (.reg [0, 1, 2, 3, 9, 10, 11] [])))))))) (.reg [0, 1, 2, 3, 9, 10] []))))))) (.seq (.reg [8] []) .leaf))))
def L_counts_i1 : IC := (.seq (.seq (.reg [⟨some 20, .mov (.t 11), none⟩,
 ⟨some 21, .mov (.t 1), none⟩,
 ⟨some 22, .cmp .lss (.t 20) (.t 21), none⟩] [0, 1, 2, 3, 9, 10, 11, 22]) (.cond (.t 22) .skip (.exit 2))) (.seq (.block 3 (.seq (.reg [⟨some 26, .mov (.t 0), none⟩,
 ⟨some 27, .mov (.t 11), none⟩,
 ⟨some 28, .mov (.t 10), none⟩,
 ⟨some 29, .mov (.t 3), none⟩,
 ⟨some 30, .call 29 [(.t 26), (.t 27), (.t 28), (.t 29)] (.tup [(.sc (.int .i64)), (.sc (.int .i64)), (.sc (.int .i64))]), none⟩,
 ⟨some 25, .mov (.t 30), none⟩,
 ⟨some 31, .ext 0 (.t 25), none⟩,
 ⟨some 32, .ext 1 (.t 25), none⟩,
 ⟨some 33, .ext 2 (.t 25), none⟩,
 ⟨some 12, .mov (.t 31), none⟩,
 ⟨some 13, .mov (.t 32), none⟩,
 ⟨some 14, .mov (.t 33), none⟩] [0, 1, 2, 3, 9, 10, 11, 12, 13, 14]) (.reg [⟨some 34, .mov (.t 9), none⟩,
 ⟨some 35, .mov (.t 12), none⟩,
 ⟨some 36, .mov (.t 13), none⟩,
 ⟨some 37, .mov (.t 14), none⟩,
 ⟨some 38, .bls 3 [.int .i64 0, .int .i64 0, .int .i64 0] [(0, 1, (.t 35)), (1, 1, (.t 36)), (2, 1, (.t 37))], none⟩,
 ⟨some 39, .app [.int .i64 0] 8 (.t 34) (.t 38), none⟩,
 ⟨some 9, .mov (.t 39), none⟩] [0, 1, 2, 3, 9, 10, 11]))) (.reg [⟨some 23, .mov (.t 11), none⟩,
 ⟨some 24, .bin .add .i64 (.t 23) (.c (Go.Value.int Go.IntKind.i64 1)), none⟩,
 ⟨some 11, .mov (.t 24), none⟩] [0, 1, 2, 3, 9, 10, 11])))
def L_counts_i0 : IC := (.seq (.seq (.reg [⟨some 15, .mov (.t 10), none⟩,
 ⟨some 16, .mov (.t 2), none⟩,
 ⟨some 17, .cmp .lss (.t 15) (.t 16), none⟩] [0, 1, 2, 3, 9, 10, 17]) (.cond (.t 17) .skip (.exit 0))) (.seq (.block 1 (.seq (.reg [⟨some 11, .mov (.c (Go.Value.int Go.IntKind.i64 0)), none⟩] [0, 1, 2, 3, 9, 10, 11]) (.block 2 (.opq 1 [0, 1, 2, 3, 9, 10, 11] (.loop L_counts_i1))))) (.reg [⟨some 18, .mov (.t 10), none⟩,
 ⟨some 19, .bin .add .i64 (.t 18) (.c (Go.Value.int Go.IntKind.i64 1)), none⟩,
 ⟨some 10, .mov (.t 19), none⟩] [0, 1, 2, 3, 9, 10])))
def L_counts_f : IFn := ⟨41, [.t 8], (.seq (.reg [⟨some 8, .mov (.c (Go.Value.slice none 0 0)), none⟩] [0, 1, 2, 3]) (.seq (.reg [⟨some 9, .mov (.c (Go.Value.slice none 0 0)), none⟩] [0, 1, 2, 3, 9]) (.seq (.seq (.reg [⟨some 10, .mov (.c (Go.Value.int Go.IntKind.i64 0)), none⟩] [0, 1, 2, 3, 9, 10]) (.block 0 (.opq 0 [0, 1, 2, 3, 9, 10] (.loop L_counts_i0)))) (.seq (.reg [⟨some 40, .mov (.t 9), none⟩,
 ⟨some 8, .mov (.t 40), none⟩] [8]) .ret))))⟩
theorem L_counts_e1 {R : Type} (cblk_Block_Neighbors : Option Addr → Int → Int → Bool → Heap → (Int → Int → Int → Option R) → Option R) (L_counts_l0 : (Option Addr → Nat → Nat → Heap → Option R) → Nat → Option Addr → Int → Int → Bool → Option Addr → Nat → Nat → Int → Heap → Option R) (L_counts_l1 : (Option Addr → Int → Int → Bool → Option Addr → Nat → Nat → Int → Heap → Option R) → Nat → Option Addr → Int → Int → Bool → Option Addr → Nat → Nat → Int → Int → Heap → Option R) (k n : Nat) (p448 : Option Addr) (n449 : Int) (n450 : Int) (t451 : Bool) (q452 : Option Addr) (l453 : Nat) (c454 : Nat) (n455 : Int) (n456 : Int) (H : Heap) (K : Xit → Env → Heap → Option R) : evJ (L_counts_Ct cblk_Block_Neighbors) (L_counts_Jt k L_counts_l0 L_counts_l1) L_counts_i1 (List.zip [0, 1, 2, 3, 9, 10, 11] [.pointer p448, .int .i64 n449, .int .i64 n450, .bool t451, .slice q452 l453 c454, .int .i64 n455, .int .i64 n456]) H (fun x e' H' => match x with | .normal => L_counts_aa1 L_counts_l1 n ((clean e' [0, 1, 2, 3, 9, 10, 11]).map (·.2)) H' K | x => K x (clean e' ((⟨[], [(2, [0, 1, 2, 3, 9, 10])], []⟩ : Out).of x)) H') = L_counts_l1_b cblk_Block_Neighbors (L_counts_l1 (fun p1373 n1374 n1375 t1376 q1377 l1378 c1379 n1380 H => K (.exit 2) [(0, .pointer p1373), (1, .int .i64 n1374), (2, .int .i64 n1375), (3, .bool t1376), (9, .slice q1377 l1378 c1379), (10, .int .i64 n1380)] H) n) (fun p1373 n1374 n1375 t1376 q1377 l1378 c1379 n1380 H => K (.exit 2) [(0, .pointer p1373), (1, .int .i64 n1374), (2, .int .i64 n1375), (3, .bool t1376), (9, .slice q1377 l1378 c1379), (10, .int .i64 n1380)] H) k p448 n449 n450 t451 q452 l453 c454 n455 n456 H := by kernel_rfl
theorem L_counts_j1 {R : Type} (k : Nat) : JS Try.prog 41 (L_counts_a1 R k k) [0, 1, 2, 3, 9, 10, 11] ⟨[], [(2, [0, 1, 2, 3, 9, 10])], []⟩ (.loop (sel [1, 1, 0, 1, 0, 0, 1, 0, 0, 1, 0, 0] (Try.f26.body.getD .skip))) :=
  loop_ok (nt := 41) (c := (sel [1, 1, 0, 1, 0, 0, 1, 0, 0, 1, 0, 0] (Try.f26.body.getD .skip))) (C := L_counts_C R k) (an := An) (t := (.seq (.seq (.reg [0, 1, 2, 3, 9, 10, 11, 22] []) (.cond .leaf .leaf)) (.seq (.node (.seq (.reg [0, 1, 2, 3, 9, 10, 11, 12, 13, 14] []) (.reg [0, 1, 2, 3, 9, 10, 11] []))) (.reg [0, 1, 2, 3, 9, 10, 11] [])))) (ic := L_counts_i1) (L_counts_S R k) (L_counts_J R k) (by kernel_rfl) (And.intro (And.intro True.intro (And.intro True.intro True.intro)) (And.intro (And.intro True.intro True.intro) True.intro)) (L_counts_a1 R k) (fun vals H K => by unfold L_counts_a1 L_counts_aa1; split <;> rfl)
    (fun n vals H K r h => by
      unfold L_counts_a1 L_counts_aa1 at h
      split at h <;> first | (cases h; done) | exact Eq.trans (L_counts_e1 (cblk_Block_Neighbors k) (L_counts_l0 k) (L_counts_l1 k) k n _ _ _ _ _ _ _ _ _ H K) h) k
theorem L_counts_e0 {R : Type} (cblk_Block_Neighbors : Option Addr → Int → Int → Bool → Heap → (Int → Int → Int → Option R) → Option R) (L_counts_l0 : (Option Addr → Nat → Nat → Heap → Option R) → Nat → Option Addr → Int → Int → Bool → Option Addr → Nat → Nat → Int → Heap → Option R) (L_counts_l1 : (Option Addr → Int → Int → Bool → Option Addr → Nat → Nat → Int → Heap → Option R) → Nat → Option Addr → Int → Int → Bool → Option Addr → Nat → Nat → Int → Int → Heap → Option R) (k n : Nat) (p440 : Option Addr) (n441 : Int) (n442 : Int) (t443 : Bool) (q444 : Option Addr) (l445 : Nat) (c446 : Nat) (n447 : Int) (H : Heap) (K : Xit → Env → Heap → Option R) : evJ (L_counts_Ct cblk_Block_Neighbors) (L_counts_Jt k L_counts_l0 L_counts_l1) L_counts_i0 (List.zip [0, 1, 2, 3, 9, 10] [.pointer p440, .int .i64 n441, .int .i64 n442, .bool t443, .slice q444 l445 c446, .int .i64 n447]) H (fun x e' H' => match x with | .normal => L_counts_aa0 L_counts_l0 n ((clean e' [0, 1, 2, 3, 9, 10]).map (·.2)) H' K | x => K x (clean e' ((⟨[], [(0, [9])], []⟩ : Out).of x)) H') = L_counts_l0_b L_counts_l1 (L_counts_l0 (fun q1370 l1371 c1372 H => K (.exit 0) [(9, .slice q1370 l1371 c1372)] H) n) (fun q1370 l1371 c1372 H => K (.exit 0) [(9, .slice q1370 l1371 c1372)] H) k p440 n441 n442 t443 q444 l445 c446 n447 H := by kernel_rfl
theorem L_counts_j0 {R : Type} (k : Nat) : JS Try.prog 41 (L_counts_a0 R k k) [0, 1, 2, 3, 9, 10] ⟨[], [(0, [9])], []⟩ (.loop (sel [1, 1, 0, 1, 0, 0] (Try.f26.body.getD .skip))) :=
  loop_ok (nt := 41) (c := (sel [1, 1, 0, 1, 0, 0] (Try.f26.body.getD .skip))) (C := L_counts_C R k) (an := An) (t := (.seq (.seq (.reg [0, 1, 2, 3, 9, 10, 17] []) (.cond .leaf .leaf)) (.seq (.node (.seq (.reg [0, 1, 2, 3, 9, 10, 11] []) (.node (.opq 1 [0, 1, 2, 3, 9, 10, 11] ⟨[], [(2, [0, 1, 2, 3, 9, 10])], []⟩ (.node (.seq (.seq (.reg [0, 1, 2, 3, 9, 10, 11, 22] []) (.cond .leaf .leaf)) (.seq (.node (.seq (.reg [0, 1, 2, 3, 9, 10, 11, 12, 13, 14] []) (.reg [0, 1, 2, 3, 9, 10, 11] []))) (.reg [0, 1, 2, 3, 9, 10, 11] [])))))))) (.reg [0, 1, 2, 3, 9, 10] [])))) (ic := L_counts_i0) (L_counts_S R k) (L_counts_J R k) (by kernel_rfl) (And.intro (And.intro True.intro (And.intro True.intro True.intro)) (And.intro (And.intro True.intro (L_counts_j1 k)) True.intro)) (L_counts_a0 R k) (fun vals H K => by unfold L_counts_a0 L_counts_aa0; split <;> rfl)
    (fun n vals H K r h => by
      unfold L_counts_a0 L_counts_aa0 at h
      split at h <;> first | (cases h; done) | exact Eq.trans (L_counts_e0 (cblk_Block_Neighbors k) (L_counts_l0 k) (L_counts_l1 k) k n _ _ _ _ _ _ _ _ H K) h) k
def L_counts_ca {R : Type} (f : Option Addr → Int → Int → Bool → Heap → (Option Addr → Nat → Nat → Heap → Option R) → Option R) (args : List Value) (H : Heap) (K : Value → Heap → Option R) : Option R :=
  match args with
  | [.pointer p436, .int .i64 n437, .int .i64 n438, .bool t439] => f p436 n437 n438 t439 H (fun q1381 l1382 c1383 H => K (.slice q1381 l1382 c1383) H)
  | _ => none
def L_counts_c (R : Type) (k : Nat) (args : List Value) (H : Heap) (K : Value → Heap → Option R) : Option R := L_counts_ca (L_counts k) args H K
theorem L_counts_e {R : Type} (cblk_Block_Neighbors : Option Addr → Int → Int → Bool → Heap → (Int → Int → Int → Option R) → Option R) (L_counts_l0 : (Option Addr → Nat → Nat → Heap → Option R) → Nat → Option Addr → Int → Int → Bool → Option Addr → Nat → Nat → Int → Heap → Option R) (L_counts_l1 : (Option Addr → Int → Int → Bool → Option Addr → Nat → Nat → Int → Heap → Option R) → Nat → Option Addr → Int → Int → Bool → Option Addr → Nat → Nat → Int → Int → Heap → Option R) (k : Nat) (p436 : Option Addr) (n437 : Int) (n438 : Int) (t439 : Bool) (H : Heap) (K : Value → Heap → Option R) : evF (L_counts_Ct cblk_Block_Neighbors) (L_counts_Jt k L_counts_l0 L_counts_l1) L_counts_f [.pointer p436, .int .i64 n437, .int .i64 n438, .bool t439] H K = L_counts_b L_counts_l0 k p436 n437 n438 t439 H (fun q1381 l1382 c1383 H => K (.slice q1381 l1382 c1383) H) := by kernel_rfl
theorem L_counts_cs (R : Type) (k : Nat) : ∀ args H K r, L_counts_c R k args H K = some r → ∃ v H', Tri Try.prog 26 args H v H' ∧ K v H' = some r := by
  intro args H K r h
  unfold L_counts_c L_counts_ca at h
  split at h
  · exact evF_ok (C := L_counts_C R k) (an := An) (t := L_counts_at) (fn := Try.f26) (c := (Try.f26.body.getD .skip)) (ifn := L_counts_f) (L_counts_S R k) (L_counts_J R k) Try.func26 (by kernel_rfl) (by kernel_rfl) (And.intro True.intro (And.intro True.intro (And.intro (And.intro True.intro (L_counts_j0 k)) (And.intro True.intro True.intro)))) rfl (Eq.trans (L_counts_e (cblk_Block_Neighbors k) (L_counts_l0 k) (L_counts_l1 k) k _ _ _ _ H K) h)
  · cases h
/-! ### L_grown: function 28 -/
def L_grown_p2_b {R : Type} (k : Nat) (q554 : Option Addr) (l555 : Nat) (c556 : Nat) (q557 : Option Addr) (l558 : Nat) (c559 : Nat) (n560 : Int) (n561 : Int) (n562 : Int) (n563 : Int) (t564 : Bool) (n565 : Int) (n566 : Int) (n567 : Int) (n568 : Int) (n569 : Int) (KN : Option Addr → Nat → Nat → Option Addr → Nat → Nat → Int → Int → Int → Int → Bool → Int → Int → Int → Int → Int → Bool → Option R) : Option R :=
bif decide (n568 ≤ 1) then (bif decide (n569 ≤ 1) then (bif decide ((IntKind.wrap .i64 (n568 + n569)) > 0) then (bif t564 then (bif (n563 == (IntKind.wrap .i64 (n565 + 1))) then (KN q554 l555 c556 q557 l558 c559 n560 n561 n562 n563 t564 n565 n566 n567 n568 n569 (!((Int.tmod n565 4) == 3)))
 else (KN q554 l555 c556 q557 l558 c559 n560 n561 n562 n563 t564 n565 n566 n567 n568 n569 true))
 else (KN q554 l555 c556 q557 l558 c559 n560 n561 n562 n563 t564 n565 n566 n567 n568 n569 true))
 else (KN q554 l555 c556 q557 l558 c559 n560 n561 n562 n563 t564 n565 n566 n567 n568 n569 false))
 else (KN q554 l555 c556 q557 l558 c559 n560 n561 n562 n563 t564 n565 n566 n567 n568 n569 false))
 else (KN q554 l555 c556 q557 l558 c559 n560 n561 n562 n563 t564 n565 n566 n567 n568 n569 false)
def L_grown_p2 {R : Type} (k : Nat) (q554 : Option Addr) (l555 : Nat) (c556 : Nat) (q557 : Option Addr) (l558 : Nat) (c559 : Nat) (n560 : Int) (n561 : Int) (n562 : Int) (n563 : Int) (t564 : Bool) (n565 : Int) (n566 : Int) (n567 : Int) (n568 : Int) (n569 : Int) (KN : Option Addr → Nat → Nat → Option Addr → Nat → Nat → Int → Int → Int → Int → Bool → Int → Int → Int → Int → Int → Bool → Option R) : Option R := L_grown_p2_b k q554 l555 c556 q557 l558 c559 n560 n561 n562 n563 t564 n565 n566 n567 n568 n569 KN

def L_grown_p3_b {R : Type} (k : Nat) (q604 : Option Addr) (l605 : Nat) (c606 : Nat) (q607 : Option Addr) (l608 : Nat) (c609 : Nat) (n610 : Int) (n611 : Int) (n612 : Int) (n613 : Int) (t614 : Bool) (n615 : Int) (n616 : Int) (n617 : Int) (n618 : Int) (n619 : Int) (t620 : Bool) (H : Heap) (KN : Option Addr → Nat → Nat → Option Addr → Nat → Nat → Int → Int → Int → Int → Bool → Int → Int → Int → Option Addr → Heap → Option R) : Option R :=
bif t620 then (bif t620 then (bif t620 then (hal H [.bool false, .bool false, .bool false] fun p621 H622 =>
hst H622 p621 [.bool (n619 == 0), .bool (n618 == 0), .bool ((IntKind.wrap .i64 (n618 + n619)) == 2)] fun H623 =>
KN q604 l605 c606 q607 l608 c609 n610 n611 n612 n613 t614 n615 n616 n617 p621 H623)
 else (hal H [.bool false, .bool false, .bool false] fun p624 H625 =>
hst H625 p624 [.bool (n619 == 0), .bool (n618 == 0), .bool false] fun H626 =>
KN q604 l605 c606 q607 l608 c609 n610 n611 n612 n613 t614 n615 n616 n617 p624 H626))
 else (bif t620 then (hal H [.bool false, .bool false, .bool false] fun p627 H628 =>
hst H628 p627 [.bool (n619 == 0), .bool false, .bool ((IntKind.wrap .i64 (n618 + n619)) == 2)] fun H629 =>
KN q604 l605 c606 q607 l608 c609 n610 n611 n612 n613 t614 n615 n616 n617 p627 H629)
 else (hal H [.bool false, .bool false, .bool false] fun p630 H631 =>
hst H631 p630 [.bool (n619 == 0), .bool false, .bool false] fun H632 =>
KN q604 l605 c606 q607 l608 c609 n610 n611 n612 n613 t614 n615 n616 n617 p630 H632)))
 else (bif t620 then (bif t620 then (hal H [.bool false, .bool false, .bool false] fun p633 H634 =>
hst H634 p633 [.bool false, .bool (n618 == 0), .bool ((IntKind.wrap .i64 (n618 + n619)) == 2)] fun H635 =>
KN q604 l605 c606 q607 l608 c609 n610 n611 n612 n613 t614 n615 n616 n617 p633 H635)
 else (hal H [.bool false, .bool false, .bool false] fun p636 H637 =>
hst H637 p636 [.bool false, .bool (n618 == 0), .bool false] fun H638 =>
KN q604 l605 c606 q607 l608 c609 n610 n611 n612 n613 t614 n615 n616 n617 p636 H638))
 else (bif t620 then (hal H [.bool false, .bool false, .bool false] fun p639 H640 =>
hst H640 p639 [.bool false, .bool false, .bool ((IntKind.wrap .i64 (n618 + n619)) == 2)] fun H641 =>
KN q604 l605 c606 q607 l608 c609 n610 n611 n612 n613 t614 n615 n616 n617 p639 H641)
 else (hal H [.bool false, .bool false, .bool false] fun p642 H643 =>
hst H643 p642 [.bool false, .bool false, .bool false] fun H644 =>
KN q604 l605 c606 q607 l608 c609 n610 n611 n612 n613 t614 n615 n616 n617 p642 H644)))
def L_grown_p3 {R : Type} (k : Nat) (q604 : Option Addr) (l605 : Nat) (c606 : Nat) (q607 : Option Addr) (l608 : Nat) (c609 : Nat) (n610 : Int) (n611 : Int) (n612 : Int) (n613 : Int) (t614 : Bool) (n615 : Int) (n616 : Int) (n617 : Int) (n618 : Int) (n619 : Int) (t620 : Bool) (H : Heap) (KN : Option Addr → Nat → Nat → Option Addr → Nat → Nat → Int → Int → Int → Int → Bool → Int → Int → Int → Option Addr → Heap → Option R) : Option R := L_grown_p3_b k q604 l605 c606 q607 l608 c609 n610 n611 n612 n613 t614 n615 n616 n617 n618 n619 t620 H KN

def L_grown_p5_b {R : Type} (k : Nat) (q692 : Option Addr) (l693 : Nat) (c694 : Nat) (q695 : Option Addr) (l696 : Nat) (c697 : Nat) (n698 : Int) (n699 : Int) (n700 : Int) (n701 : Int) (t702 : Bool) (n703 : Int) (n704 : Int) (n705 : Int) (p706 : Option Addr) (n707 : Int) (H : Heap) (KN : Option Addr → Nat → Nat → Option Addr → Nat → Nat → Int → Int → Int → Int → Bool → Int → Int → Int → Option Addr → Int → Option R) (KR : Bool → Option R) : Option R :=
hidx q695 l696 (IntKind.wrap .i64 (n705 + n707)) 1 fun p708 =>
ldI .i64 H p708 fun n709 =>
hidx q692 l693 (IntKind.wrap .i64 (n705 + n707)) 1 fun p710 =>
ldI .i64 H p710 fun n711 =>
bif ((IntKind.wrap .i64 (n709 - n711)) != 0) then (bif ((IntKind.wrap .i64 (n709 - n711)) != 1) then (KR false)
 else (hidx p706 3 n707 1 fun p712 =>
ldB H p712 fun t713 =>
bif !(((IntKind.wrap .i64 (n709 - n711)) == 1) == t713) then (KR false)
 else (KN q692 l693 c694 q695 l696 c697 n698 n699 n700 n701 t702 n703 n704 n705 p706 n707)))
 else (hidx p706 3 n707 1 fun p714 =>
ldB H p714 fun t715 =>
bif !(((IntKind.wrap .i64 (n709 - n711)) == 1) == t715) then (KR false)
 else (KN q692 l693 c694 q695 l696 c697 n698 n699 n700 n701 t702 n703 n704 n705 p706 n707))
def L_grown_p5 {R : Type} (k : Nat) (q692 : Option Addr) (l693 : Nat) (c694 : Nat) (q695 : Option Addr) (l696 : Nat) (c697 : Nat) (n698 : Int) (n699 : Int) (n700 : Int) (n701 : Int) (t702 : Bool) (n703 : Int) (n704 : Int) (n705 : Int) (p706 : Option Addr) (n707 : Int) (H : Heap) (KN : Option Addr → Nat → Nat → Option Addr → Nat → Nat → Int → Int → Int → Int → Bool → Int → Int → Int → Option Addr → Int → Option R) (KR : Bool → Option R) : Option R := L_grown_p5_b k q692 l693 c694 q695 l696 c697 n698 n699 n700 n701 t702 n703 n704 n705 p706 n707 H KN KR

def L_grown_l4_b {R : Type} (L_grown_p5 : Option Addr → Nat → Nat → Option Addr → Nat → Nat → Int → Int → Int → Int → Bool → Int → Int → Int → Option Addr → Int → Heap → (Option Addr → Nat → Nat → Option Addr → Nat → Nat → Int → Int → Int → Int → Bool → Int → Int → Int → Option Addr → Int → Option R) → (Bool → Option R) → Option R) (rec : Option Addr → Nat → Nat → Option Addr → Nat → Nat → Int → Int → Int → Int → Bool → Int → Int → Int → Option Addr → Int → Heap → Option R) (KE4 : Option Addr → Nat → Nat → Option Addr → Nat → Nat → Int → Int → Int → Int → Bool → Int → Int → Option R) (KR : Bool → Option R) (k : Nat) (q676 : Option Addr) (l677 : Nat) (c678 : Nat) (q679 : Option Addr) (l680 : Nat) (c681 : Nat) (n682 : Int) (n683 : Int) (n684 : Int) (n685 : Int) (t686 : Bool) (n687 : Int) (n688 : Int) (n689 : Int) (p690 : Option Addr) (n691 : Int) (H : Heap) : Option R :=
bif decide (n691 < 3) then (L_grown_p5 q676 l677 c678 q679 l680 c681 n682 n683 n684 n685 t686 n687 n688 n689 p690 n691 H (fun q733 l734 c735 q736 l737 c738 n739 n740 n741 n742 t743 n744 n745 n746 p747 n748 =>
rec q733 l734 c735 q736 l737 c738 n739 n740 n741 n742 t743 n744 n745 n746 p747 (IntKind.wrap .i64 (n748 + 1)) H) (fun t749 =>
KR t749))
 else (KE4 q676 l677 c678 q679 l680 c681 n682 n683 n684 n685 t686 n687 n688)
def L_grown_l4 {R : Type} (k : Nat) (KE4 : Option Addr → Nat → Nat → Option Addr → Nat → Nat → Int → Int → Int → Int → Bool → Int → Int → Option R) (KR : Bool → Option R) : Nat → Option Addr → Nat → Nat → Option Addr → Nat → Nat → Int → Int → Int → Int → Bool → Int → Int → Int → Option Addr → Int → Heap → Option R
  | 0, _, _, _, _, _, _, _, _, _, _, _, _, _, _, _, _, _ => none
  | n + 1, q676, l677, c678, q679, l680, c681, n682, n683, n684, n685, t686, n687, n688, n689, p690, n691, H => L_grown_l4_b (L_grown_p5 k) (L_grown_l4 k KE4 KR n) KE4 KR k q676 l677 c678 q679 l680 c681 n682 n683 n684 n685 t686 n687 n688 n689 p690 n691 H

def L_grown_l1_b {R : Type} (L_grown_p2 : Option Addr → Nat → Nat → Option Addr → Nat → Nat → Int → Int → Int → Int → Bool → Int → Int → Int → Int → Int → (Option Addr → Nat → Nat → Option Addr → Nat → Nat → Int → Int → Int → Int → Bool → Int → Int → Int → Int → Int → Bool → Option R) → Option R) (L_grown_p3 : Option Addr → Nat → Nat → Option Addr → Nat → Nat → Int → Int → Int → Int → Bool → Int → Int → Int → Int → Int → Bool → Heap → (Option Addr → Nat → Nat → Option Addr → Nat → Nat → Int → Int → Int → Int → Bool → Int → Int → Int → Option Addr → Heap → Option R) → Option R) (L_grown_l4 : (Option Addr → Nat → Nat → Option Addr → Nat → Nat → Int → Int → Int → Int → Bool → Int → Int → Option R) → (Bool → Option R) → Nat → Option Addr → Nat → Nat → Option Addr → Nat → Nat → Int → Int → Int → Int → Bool → Int → Int → Int → Option Addr → Int → Heap → Option R) (rec : Option Addr → Nat → Nat → Option Addr → Nat → Nat → Int → Int → Int → Int → Bool → Int → Int → Heap → Option R) (KE2 : Option Addr → Nat → Nat → Option Addr → Nat → Nat → Int → Int → Int → Int → Bool → Int → Heap → Option R) (KR : Bool → Heap → Option R) (k : Nat) (q541 : Option Addr) (l542 : Nat) (c543 : Nat) (q544 : Option Addr) (l545 : Nat) (c546 : Nat) (n547 : Int) (n548 : Int) (n549 : Int) (n550 : Int) (t551 : Bool) (n552 : Int) (n553 : Int) (H : Heap) : Option R :=
bif decide (n553 < n547) then (L_grown_p2 q541 l542 c543 q544 l545 c546 n547 n548 n549 n550 t551 n552 n553 (IntKind.wrap .i64 (3 * (IntKind.wrap .i64 ((IntKind.wrap .i64 (n552 * n547)) + n553)))) (imx (IntKind.wrap .i64 (n553 - n549)) (IntKind.wrap .i64 (n549 - n553))) (imx (IntKind.wrap .i64 (n552 - n550)) (IntKind.wrap .i64 (n550 - n552))) (fun q587 l588 c589 q590 l591 c592 n593 n594 n595 n596 t597 n598 n599 n600 n601 n602 t603 =>
L_grown_p3 q587 l588 c589 q590 l591 c592 n593 n594 n595 n596 t597 n598 n599 n600 n601 n602 t603 H (fun q660 l661 c662 q663 l664 c665 n666 n667 n668 n669 t670 n671 n672 n673 p674 H675 =>
L_grown_l4 (fun q764 l765 c766 q767 l768 c769 n770 n771 n772 n773 t774 n775 n776 =>
rec q764 l765 c766 q767 l768 c769 n770 n771 n772 n773 t774 n775 (IntKind.wrap .i64 (n776 + 1)) H675) (fun t777 =>
KR t777 H675) k q660 l661 c662 q663 l664 c665 n666 n667 n668 n669 t670 n671 n672 n673 p674 0 H675)))
 else (KE2 q541 l542 c543 q544 l545 c546 n547 n548 n549 n550 t551 n552 H)
def L_grown_l1 {R : Type} (k : Nat) (KE2 : Option Addr → Nat → Nat → Option Addr → Nat → Nat → Int → Int → Int → Int → Bool → Int → Heap → Option R) (KR : Bool → Heap → Option R) : Nat → Option Addr → Nat → Nat → Option Addr → Nat → Nat → Int → Int → Int → Int → Bool → Int → Int → Heap → Option R
  | 0, _, _, _, _, _, _, _, _, _, _, _, _, _, _ => none
  | n + 1, q541, l542, c543, q544, l545, c546, n547, n548, n549, n550, t551, n552, n553, H => L_grown_l1_b (L_grown_p2 k) (L_grown_p3 k) (L_grown_l4 k) (L_grown_l1 k KE2 KR n) KE2 KR k q541 l542 c543 q544 l545 c546 n547 n548 n549 n550 t551 n552 n553 H

def L_grown_l0_b {R : Type} (L_grown_l1 : (Option Addr → Nat → Nat → Option Addr → Nat → Nat → Int → Int → Int → Int → Bool → Int → Heap → Option R) → (Bool → Heap → Option R) → Nat → Option Addr → Nat → Nat → Option Addr → Nat → Nat → Int → Int → Int → Int → Bool → Int → Int → Heap → Option R) (rec : Option Addr → Nat → Nat → Option Addr → Nat → Nat → Int → Int → Int → Int → Bool → Int → Heap → Option R) (KE0 : Heap → Option R) (KR : Bool → Heap → Option R) (k : Nat) (q529 : Option Addr) (l530 : Nat) (c531 : Nat) (q532 : Option Addr) (l533 : Nat) (c534 : Nat) (n535 : Int) (n536 : Int) (n537 : Int) (n538 : Int) (t539 : Bool) (n540 : Int) (H : Heap) : Option R :=
bif decide (n540 < n536) then (L_grown_l1 (fun q791 l792 c793 q794 l795 c796 n797 n798 n799 n800 t801 n802 H803 =>
rec q791 l792 c793 q794 l795 c796 n797 n798 n799 n800 t801 (IntKind.wrap .i64 (n802 + 1)) H803) (fun t804 H805 =>
KR t804 H805) k q529 l530 c531 q532 l533 c534 n535 n536 n537 n538 t539 n540 0 H)
 else (KE0 H)
def L_grown_l0 {R : Type} (k : Nat) (KE0 : Heap → Option R) (KR : Bool → Heap → Option R) : Nat → Option Addr → Nat → Nat → Option Addr → Nat → Nat → Int → Int → Int → Int → Bool → Int → Heap → Option R
  | 0, _, _, _, _, _, _, _, _, _, _, _, _, _ => none
  | n + 1, q529, l530, c531, q532, l533, c534, n535, n536, n537, n538, t539, n540, H => L_grown_l0_b (L_grown_l1 k) (L_grown_l0 k KE0 KR n) KE0 KR k q529 l530 c531 q532 l533 c534 n535 n536 n537 n538 t539 n540 H

def L_grown_b {R : Type} (L_grown_l0 : (Heap → Option R) → (Bool → Heap → Option R) → Nat → Option Addr → Nat → Nat → Option Addr → Nat → Nat → Int → Int → Int → Int → Bool → Int → Heap → Option R) (k : Nat) (q518 : Option Addr) (l519 : Nat) (c520 : Nat) (q521 : Option Addr) (l522 : Nat) (c523 : Nat) (n524 : Int) (n525 : Int) (n526 : Int) (n527 : Int) (t528 : Bool) (H : Heap) (K : Bool → Heap → Option R) : Option R :=
L_grown_l0 (fun H807 =>
K true H807) (fun t808 H809 =>
K t808 H809) k q518 l519 c520 q521 l522 c523 n524 n525 n526 n527 t528 0 H

def L_grown {R : Type} (k : Nat) (q518 : Option Addr) (l519 : Nat) (c520 : Nat) (q521 : Option Addr) (l522 : Nat) (c523 : Nat) (n524 : Int) (n525 : Int) (n526 : Int) (n527 : Int) (t528 : Bool) (H : Heap) (K : Bool → Heap → Option R) : Option R := L_grown_b (L_grown_l0 k) k q518 l519 c520 q521 l522 c523 n524 n525 n526 n527 t528 H K

def L_grown_Ct {R : Type} : Tab R := fun _ _ _ _ => none
def L_grown_C (R : Type) (k : Nat) : Tab R := L_grown_Ct
theorem L_grown_S (R : Type) (k : Nat) : CSound Try.prog (L_grown_C R k) := csound_nil
def L_grown_aa0 {R : Type} (f : (Heap → Option R) → (Bool → Heap → Option R) → Nat → Option Addr → Nat → Nat → Option Addr → Nat → Nat → Int → Int → Int → Int → Bool → Int → Heap → Option R) (n : Nat) (vals : List Value) (H : Heap) (K : Xit → Env → Heap → Option R) : Option R :=
  match vals with
  | [.slice q529 l530 c531, .slice q532 l533 c534, .int .i64 n535, .int .i64 n536, .int .i64 n537, .int .i64 n538, .bool t539, .int .i64 n540] => f (fun H => K (.exit 0) [] H) (fun t1384 H => K .ret [(14, .bool t1384)] H) n q529 l530 c531 q532 l533 c534 n535 n536 n537 n538 t539 n540 H
  | _ => none
def L_grown_a0 (R : Type) (k n : Nat) (vals : List Value) (H : Heap) (K : Xit → Env → Heap → Option R) : Option R := L_grown_aa0 (L_grown_l0 k) n vals H K
def L_grown_aa1 {R : Type} (f : (Option Addr → Nat → Nat → Option Addr → Nat → Nat → Int → Int → Int → Int → Bool → Int → Heap → Option R) → (Bool → Heap → Option R) → Nat → Option Addr → Nat → Nat → Option Addr → Nat → Nat → Int → Int → Int → Int → Bool → Int → Int → Heap → Option R) (n : Nat) (vals : List Value) (H : Heap) (K : Xit → Env → Heap → Option R) : Option R :=
  match vals with
  | [.slice q541 l542 c543, .slice q544 l545 c546, .int .i64 n547, .int .i64 n548, .int .i64 n549, .int .i64 n550, .bool t551, .int .i64 n552, .int .i64 n553] => f (fun q1385 l1386 c1387 q1388 l1389 c1390 n1391 n1392 n1393 n1394 t1395 n1396 H => K (.exit 2) [(0, .slice q1385 l1386 c1387), (1, .slice q1388 l1389 c1390), (2, .int .i64 n1391), (3, .int .i64 n1392), (4, .int .i64 n1393), (5, .int .i64 n1394), (6, .bool t1395), (15, .int .i64 n1396)] H) (fun t1397 H => K .ret [(14, .bool t1397)] H) n q541 l542 c543 q544 l545 c546 n547 n548 n549 n550 t551 n552 n553 H
  | _ => none
def L_grown_a1 (R : Type) (k n : Nat) (vals : List Value) (H : Heap) (K : Xit → Env → Heap → Option R) : Option R := L_grown_aa1 (L_grown_l1 k) n vals H K
def L_grown_aa2 {R : Type} (f : Option Addr → Nat → Nat → Option Addr → Nat → Nat → Int → Int → Int → Int → Bool → Int → Int → Int → Int → Int → (Option Addr → Nat → Nat → Option Addr → Nat → Nat → Int → Int → Int → Int → Bool → Int → Int → Int → Int → Int → Bool → Option R) → Option R) (n : Nat) (vals : List Value) (H : Heap) (K : Xit → Env → Heap → Option R) : Option R :=
  match vals with
  | [.slice q554 l555 c556, .slice q557 l558 c559, .int .i64 n560, .int .i64 n561, .int .i64 n562, .int .i64 n563, .bool t564, .int .i64 n565, .int .i64 n566, .int .i64 n567, .int .i64 n568, .int .i64 n569] => f q554 l555 c556 q557 l558 c559 n560 n561 n562 n563 t564 n565 n566 n567 n568 n569 (fun q1398 l1399 c1400 q1401 l1402 c1403 n1404 n1405 n1406 n1407 t1408 n1409 n1410 n1411 n1412 n1413 t1414 => K .normal [(0, .slice q1398 l1399 c1400), (1, .slice q1401 l1402 c1403), (2, .int .i64 n1404), (3, .int .i64 n1405), (4, .int .i64 n1406), (5, .int .i64 n1407), (6, .bool t1408), (15, .int .i64 n1409), (16, .int .i64 n1410), (17, .int .i64 n1411), (18, .int .i64 n1412), (19, .int .i64 n1413), (20, .bool t1414)] H)
  | _ => none
def L_grown_a2 (R : Type) (k n : Nat) (vals : List Value) (H : Heap) (K : Xit → Env → Heap → Option R) : Option R := L_grown_aa2 (L_grown_p2 k) n vals H K
def L_grown_aa3 {R : Type} (f : Option Addr → Nat → Nat → Option Addr → Nat → Nat → Int → Int → Int → Int → Bool → Int → Int → Int → Int → Int → Bool → Heap → (Option Addr → Nat → Nat → Option Addr → Nat → Nat → Int → Int → Int → Int → Bool → Int → Int → Int → Option Addr → Heap → Option R) → Option R) (n : Nat) (vals : List Value) (H : Heap) (K : Xit → Env → Heap → Option R) : Option R :=
  match vals with
  | [.slice q604 l605 c606, .slice q607 l608 c609, .int .i64 n610, .int .i64 n611, .int .i64 n612, .int .i64 n613, .bool t614, .int .i64 n615, .int .i64 n616, .int .i64 n617, .int .i64 n618, .int .i64 n619, .bool t620] => f q604 l605 c606 q607 l608 c609 n610 n611 n612 n613 t614 n615 n616 n617 n618 n619 t620 H (fun q1415 l1416 c1417 q1418 l1419 c1420 n1421 n1422 n1423 n1424 t1425 n1426 n1427 n1428 p1429 H => K .normal [(0, .slice q1415 l1416 c1417), (1, .slice q1418 l1419 c1420), (2, .int .i64 n1421), (3, .int .i64 n1422), (4, .int .i64 n1423), (5, .int .i64 n1424), (6, .bool t1425), (15, .int .i64 n1426), (16, .int .i64 n1427), (17, .int .i64 n1428), (21, .pointer p1429)] H)
  | _ => none
def L_grown_a3 (R : Type) (k n : Nat) (vals : List Value) (H : Heap) (K : Xit → Env → Heap → Option R) : Option R := L_grown_aa3 (L_grown_p3 k) n vals H K
def L_grown_aa4 {R : Type} (f : (Option Addr → Nat → Nat → Option Addr → Nat → Nat → Int → Int → Int → Int → Bool → Int → Int → Option R) → (Bool → Option R) → Nat → Option Addr → Nat → Nat → Option Addr → Nat → Nat → Int → Int → Int → Int → Bool → Int → Int → Int → Option Addr → Int → Heap → Option R) (n : Nat) (vals : List Value) (H : Heap) (K : Xit → Env → Heap → Option R) : Option R :=
  match vals with
  | [.slice q676 l677 c678, .slice q679 l680 c681, .int .i64 n682, .int .i64 n683, .int .i64 n684, .int .i64 n685, .bool t686, .int .i64 n687, .int .i64 n688, .int .i64 n689, .pointer p690, .int .i64 n691] => f (fun q1430 l1431 c1432 q1433 l1434 c1435 n1436 n1437 n1438 n1439 t1440 n1441 n1442 => K (.exit 4) [(0, .slice q1430 l1431 c1432), (1, .slice q1433 l1434 c1435), (2, .int .i64 n1436), (3, .int .i64 n1437), (4, .int .i64 n1438), (5, .int .i64 n1439), (6, .bool t1440), (15, .int .i64 n1441), (16, .int .i64 n1442)] H) (fun t1443 => K .ret [(14, .bool t1443)] H) n q676 l677 c678 q679 l680 c681 n682 n683 n684 n685 t686 n687 n688 n689 p690 n691 H
  | _ => none
def L_grown_a4 (R : Type) (k n : Nat) (vals : List Value) (H : Heap) (K : Xit → Env → Heap → Option R) : Option R := L_grown_aa4 (L_grown_l4 k) n vals H K
def L_grown_aa5 {R : Type} (f : Option Addr → Nat → Nat → Option Addr → Nat → Nat → Int → Int → Int → Int → Bool → Int → Int → Int → Option Addr → Int → Heap → (Option Addr → Nat → Nat → Option Addr → Nat → Nat → Int → Int → Int → Int → Bool → Int → Int → Int → Option Addr → Int → Option R) → (Bool → Option R) → Option R) (n : Nat) (vals : List Value) (H : Heap) (K : Xit → Env → Heap → Option R) : Option R :=
  match vals with
  | [.slice q692 l693 c694, .slice q695 l696 c697, .int .i64 n698, .int .i64 n699, .int .i64 n700, .int .i64 n701, .bool t702, .int .i64 n703, .int .i64 n704, .int .i64 n705, .pointer p706, .int .i64 n707] => f q692 l693 c694 q695 l696 c697 n698 n699 n700 n701 t702 n703 n704 n705 p706 n707 H (fun q1444 l1445 c1446 q1447 l1448 c1449 n1450 n1451 n1452 n1453 t1454 n1455 n1456 n1457 p1458 n1459 => K .normal [(0, .slice q1444 l1445 c1446), (1, .slice q1447 l1448 c1449), (2, .int .i64 n1450), (3, .int .i64 n1451), (4, .int .i64 n1452), (5, .int .i64 n1453), (6, .bool t1454), (15, .int .i64 n1455), (16, .int .i64 n1456), (17, .int .i64 n1457), (21, .pointer p1458), (22, .int .i64 n1459)] H) (fun t1460 => K .ret [(14, .bool t1460)] H)
  | _ => none
def L_grown_a5 (R : Type) (k n : Nat) (vals : List Value) (H : Heap) (K : Xit → Env → Heap → Option R) : Option R := L_grown_aa5 (L_grown_p5 k) n vals H K
def L_grown_Jt {R : Type} (k : Nat) (L_grown_l0 : (Heap → Option R) → (Bool → Heap → Option R) → Nat → Option Addr → Nat → Nat → Option Addr → Nat → Nat → Int → Int → Int → Int → Bool → Int → Heap → Option R) (L_grown_l1 : (Option Addr → Nat → Nat → Option Addr → Nat → Nat → Int → Int → Int → Int → Bool → Int → Heap → Option R) → (Bool → Heap → Option R) → Nat → Option Addr → Nat → Nat → Option Addr → Nat → Nat → Int → Int → Int → Int → Bool → Int → Int → Heap → Option R) (L_grown_p2 : Option Addr → Nat → Nat → Option Addr → Nat → Nat → Int → Int → Int → Int → Bool → Int → Int → Int → Int → Int → (Option Addr → Nat → Nat → Option Addr → Nat → Nat → Int → Int → Int → Int → Bool → Int → Int → Int → Int → Int → Bool → Option R) → Option R) (L_grown_p3 : Option Addr → Nat → Nat → Option Addr → Nat → Nat → Int → Int → Int → Int → Bool → Int → Int → Int → Int → Int → Bool → Heap → (Option Addr → Nat → Nat → Option Addr → Nat → Nat → Int → Int → Int → Int → Bool → Int → Int → Int → Option Addr → Heap → Option R) → Option R) (L_grown_l4 : (Option Addr → Nat → Nat → Option Addr → Nat → Nat → Int → Int → Int → Int → Bool → Int → Int → Option R) → (Bool → Option R) → Nat → Option Addr → Nat → Nat → Option Addr → Nat → Nat → Int → Int → Int → Int → Bool → Int → Int → Int → Option Addr → Int → Heap → Option R) (L_grown_p5 : Option Addr → Nat → Nat → Option Addr → Nat → Nat → Int → Int → Int → Int → Bool → Int → Int → Int → Option Addr → Int → Heap → (Option Addr → Nat → Nat → Option Addr → Nat → Nat → Int → Int → Int → Int → Bool → Int → Int → Int → Option Addr → Int → Option R) → (Bool → Option R) → Option R) : JTab R := tcons 0 (L_grown_aa0 L_grown_l0 k) <| tcons 1 (L_grown_aa1 L_grown_l1 k) <| tcons 2 (L_grown_aa2 L_grown_p2 k) <| tcons 3 (L_grown_aa3 L_grown_p3 k) <| tcons 4 (L_grown_aa4 L_grown_l4 k) <| tcons 5 (L_grown_aa5 L_grown_p5 k) <| fun _ _ _ _ => none
def L_grown_J (R : Type) (k : Nat) : JTab R := L_grown_Jt k (L_grown_l0 k) (L_grown_l1 k) (L_grown_p2 k) (L_grown_p3 k) (L_grown_l4 k) (L_grown_p5 k)
def L_grown_at : AT := (.seq (.reg [0, 1, 2, 3, 4, 5, 6] []) (.seq (.seq (.reg [0, 1, 2, 3, 4, 5, 6, 15] []) (.node (.opq 0 [0, 1, 2, 3, 4, 5, 6, 15] ⟨[], [(0, [])], [14]⟩ (.node (.seq (.seq (.reg [0, 1, 2, 3, 4, 5, 6, 15, 26] []) (.cond .leaf .leaf)) (.seq (.node (.seq (.reg [0, 1, 2, 3, 4, 5, 6, 15, 16] []) (.node (.opq 1 [0, 1, 2, 3, 4, 5, 6, 15, 16] ⟨[], [(2, [0, 1, 2, 3, 4, 5, 6, 15])], [14]⟩ (.node (.seq (.seq (.reg [0, 1, 2, 3, 4, 5, 6, 15, 16, 31] []) (.cond .leaf .leaf)) (.seq (.node (.seq (.reg [0, 1, 2, 3, 4, 5, 6, 15, 16, 17] []) (.seq (.reg [0, 1, 2, 3, 4, 5, 6, 15, 16, 17, 18, 19] []) (.seq (.opq 2 [0, 1, 2, 3, 4, 5, 6, 15, 16, 17, 18, 19] ⟨[0, 1, 2, 3, 4, 5, 6, 15, 16, 17, 18, 19, 20], [], []⟩ (.reg [0, 1, 2, 3, 4, 5, 6, 15, 16, 17, 18, 19, 20] [])) (.seq (.opq 3 [0, 1, 2, 3, 4, 5, 6, 15, 16, 17, 18, 19, 20] ⟨[0, 1, 2, 3, 4, 5, 6, 15, 16, 17, 21], [], []⟩ (.reg [0, 1, 2, 3, 4, 5, 6, 15, 16, 17, 21] [])) (.seq (.reg [0, 1, 2, 3, 4, 5, 6, 15, 16, 17, 21, 22] []) (.node (.opq 4 [0, 1, 2, 3, 4, 5, 6, 15, 16, 17, 21, 22] ⟨[], [(4, [0, 1, 2, 3, 4, 5, 6, 15, 16])], [14]⟩ (.node (.seq (.seq (.reg [0, 1, 2, 3, 4, 5, 6, 15, 16, 17, 21, 22, 100] []) (.cond .leaf .leaf)) (.seq (.opq 5 [0, 1, 2, 3, 4, 5, 6, 15, 16, 17, 21, 22] ⟨[0, 1, 2, 3, 4, 5, 6, 15, 16, 17, 21, 22], [], [14]⟩ (.node (.seq (.reg [0, 1, 2, 3, 4, 5, 6, 15, 16, 17, 21, 22, 23] [[], [], [], [1, 2], [0, 1, 2, 3], [0, 1, 2, 3, 4], [], [], [], [7, 8], [6, 7, 8, 9], [6, 7, 8, 9, 10], [0, 1, 2, 3, 4, 5, 6, 7, 8, 9, 10, 11], [0, 1, 2, 3, 4, 5, 6, 7, 8, 9, 10, 11, 12]]) (.seq (.reg [0, 1, 2, 3, 4, 5, 6, 15, 16, 17, 21, 22, 129] []) (.cond (.seq (.reg [14] []) .leaf) .leaf))))) (.reg [0, 1, 2, 3, 4, 5, 6, 15, 16, 17, 21, 22] [])))))))))))) (.reg [0, 1, 2, 3, 4, 5, 6, 15, 16] [])))))))) (.reg [0, 1, 2, 3, 4, 5, 6, 15] []))))))) (.seq (.reg [14] []) .leaf)))
def L_grown_i5 : IC := (.block 5 (.seq (.reg [⟨some 103, .mov (.t 1), none⟩,
 ⟨some 104, .mov (.t 17), none⟩,
 ⟨some 105, .mov (.t 22), none⟩,
 ⟨some 106, .bin .add .i64 (.t 104) (.t 105), none⟩,
 ⟨some 107, .ids 1 (.t 103) (.t 106), none⟩,
 ⟨some 108, .ld (.sc (.int .i64)) (.t 107), none⟩,
 ⟨some 109, .mov (.t 0), none⟩,
 ⟨some 110, .mov (.t 17), none⟩,
 ⟨some 111, .mov (.t 22), none⟩,
 ⟨some 112, .bin .add .i64 (.t 110) (.t 111), none⟩,
 ⟨some 113, .ids 1 (.t 109) (.t 112), none⟩,
 ⟨some 114, .ld (.sc (.int .i64)) (.t 113), none⟩,
 ⟨some 115, .bin .sub .i64 (.t 108) (.t 114), none⟩,
 ⟨some 23, .mov (.t 115), none⟩] [0, 1, 2, 3, 4, 5, 6, 15, 16, 17, 21, 22, 23]) (.seq (.reg [⟨some 116, .mov (.t 23), none⟩,
 ⟨some 117, .cmp .neq (.t 116) (.c (Go.Value.int Go.IntKind.i64 0)), none⟩,
 ⟨some 118, .mov (.t 117), none⟩,
 ⟨some 119, .mov (.t 23), some (118, true)⟩,
 ⟨some 120, .cmp .neq (.t 119) (.c (Go.Value.int Go.IntKind.i64 1)), some (118, true)⟩,
 ⟨some 121, .pick (.t 118) (.t 120) (.c (Go.Value.bool false)), none⟩,
 ⟨some 122, .mov (.t 121), none⟩,
 ⟨some 123, .mov (.t 23), some (122, false)⟩,
 ⟨some 124, .cmp .eql (.t 123) (.c (Go.Value.int Go.IntKind.i64 1)), some (122, false)⟩,
 ⟨some 125, .mov (.t 22), some (122, false)⟩,
 ⟨some 126, .ida 3 1 (.t 21) (.t 125), some (122, false)⟩,
 ⟨some 127, .ld (.sc .bool) (.t 126), some (122, false)⟩,
 ⟨some 128, .eqb (.t 124) (.t 127) true, some (122, false)⟩,
 ⟨some 129, .pick (.t 122) (.c (Go.Value.bool true)) (.t 128), none⟩] [0, 1, 2, 3, 4, 5, 6, 15, 16, 17, 21, 22, 129]) (.cond (.t 129) (.seq (.reg [⟨some 14, .mov (.c (Go.Value.bool false)), none⟩] [14]) .ret) .skip))))
def L_grown_i4 : IC := (.seq (.seq (.reg [⟨some 99, .mov (.t 22), none⟩,
 ⟨some 100, .cmp .lss (.t 99) (.c (Go.Value.int Go.IntKind.i64 3)), none⟩] [0, 1, 2, 3, 4, 5, 6, 15, 16, 17, 21, 22, 100]) (.cond (.t 100) .skip (.exit 4))) (.seq (.opq 5 [0, 1, 2, 3, 4, 5, 6, 15, 16, 17, 21, 22] L_grown_i5) (.reg [⟨some 101, .mov (.t 22), none⟩,
 ⟨some 102, .bin .add .i64 (.t 101) (.c (Go.Value.int Go.IntKind.i64 1)), none⟩,
 ⟨some 22, .mov (.t 102), none⟩] [0, 1, 2, 3, 4, 5, 6, 15, 16, 17, 21, 22])))
def L_grown_i3 : IC := (.reg [⟨some 81, .mov (.t 20), none⟩,
 ⟨some 82, .mov (.t 81), none⟩,
 ⟨some 83, .mov (.t 19), some (82, true)⟩,
 ⟨some 84, .cmp .eql (.t 83) (.c (Go.Value.int Go.IntKind.i64 0)), some (82, true)⟩,
 ⟨some 85, .pick (.t 82) (.t 84) (.c (Go.Value.bool false)), none⟩,
 ⟨some 86, .mov (.t 20), none⟩,
 ⟨some 87, .mov (.t 86), none⟩,
 ⟨some 88, .mov (.t 18), some (87, true)⟩,
 ⟨some 89, .cmp .eql (.t 88) (.c (Go.Value.int Go.IntKind.i64 0)), some (87, true)⟩,
 ⟨some 90, .pick (.t 87) (.t 89) (.c (Go.Value.bool false)), none⟩,
 ⟨some 91, .mov (.t 20), none⟩,
 ⟨some 92, .mov (.t 91), none⟩,
 ⟨some 93, .mov (.t 18), some (92, true)⟩,
 ⟨some 94, .mov (.t 19), some (92, true)⟩,
 ⟨some 95, .bin .add .i64 (.t 93) (.t 94), some (92, true)⟩,
 ⟨some 96, .cmp .eql (.t 95) (.c (Go.Value.int Go.IntKind.i64 2)), some (92, true)⟩,
 ⟨some 97, .pick (.t 92) (.t 96) (.c (Go.Value.bool false)), none⟩,
 ⟨some 98, .bld [.bool false, .bool false, .bool false] [(0, 1, (.t 85)), (1, 1, (.t 90)), (2, 1, (.t 97))], none⟩,
 ⟨some 21, .alc [.bool false, .bool false, .bool false], none⟩,
 ⟨none, .st 3 (.t 21) (.t 98), none⟩] [0, 1, 2, 3, 4, 5, 6, 15, 16, 17, 21])
def L_grown_i2 : IC := (.reg [⟨some 54, .mov (.t 18), none⟩,
 ⟨some 55, .cmp .leq (.t 54) (.c (Go.Value.int Go.IntKind.i64 1)), none⟩,
 ⟨some 56, .mov (.t 55), none⟩,
 ⟨some 57, .mov (.t 19), some (56, true)⟩,
 ⟨some 58, .cmp .leq (.t 57) (.c (Go.Value.int Go.IntKind.i64 1)), some (56, true)⟩,
 ⟨some 59, .pick (.t 56) (.t 58) (.c (Go.Value.bool false)), none⟩,
 ⟨some 60, .mov (.t 59), none⟩,
 ⟨some 61, .mov (.t 18), some (60, true)⟩,
 ⟨some 62, .mov (.t 19), some (60, true)⟩,
 ⟨some 63, .bin .add .i64 (.t 61) (.t 62), some (60, true)⟩,
 ⟨some 64, .cmp .gtr (.t 63) (.c (Go.Value.int Go.IntKind.i64 0)), some (60, true)⟩,
 ⟨some 65, .pick (.t 60) (.t 64) (.c (Go.Value.bool false)), none⟩,
 ⟨some 66, .mov (.t 65), none⟩,
 ⟨some 67, .mov (.t 6), some (66, true)⟩,
 ⟨some 68, .mov (.t 67), some (66, true)⟩,
 ⟨some 69, .mov (.t 5), some (68, true)⟩,
 ⟨some 70, .mov (.t 15), some (68, true)⟩,
 ⟨some 71, .bin .add .i64 (.t 70) (.c (Go.Value.int Go.IntKind.i64 1)), some (68, true)⟩,
 ⟨some 72, .cmp .eql (.t 69) (.t 71), some (68, true)⟩,
 ⟨some 73, .pick (.t 68) (.t 72) (.c (Go.Value.bool false)), some (66, true)⟩,
 ⟨some 74, .mov (.t 73), some (66, true)⟩,
 ⟨some 75, .mov (.t 15), some (74, true)⟩,
 ⟨some 76, .bin .rem .i64 (.t 75) (.c (Go.Value.int Go.IntKind.i64 4)), some (74, true)⟩,
 ⟨some 77, .cmp .eql (.t 76) (.c (Go.Value.int Go.IntKind.i64 3)), some (74, true)⟩,
 ⟨some 78, .pick (.t 74) (.t 77) (.c (Go.Value.bool false)), some (66, true)⟩,
 ⟨some 79, .lnot (.t 78), some (66, true)⟩,
 ⟨some 80, .pick (.t 66) (.t 79) (.c (Go.Value.bool false)), none⟩,
 ⟨some 20, .mov (.t 80), none⟩] [0, 1, 2, 3, 4, 5, 6, 15, 16, 17, 18, 19, 20])
def L_grown_i1 : IC := (.seq (.seq (.reg [⟨some 29, .mov (.t 16), none⟩,
 ⟨some 30, .mov (.t 2), none⟩,
 ⟨some 31, .cmp .lss (.t 29) (.t 30), none⟩] [0, 1, 2, 3, 4, 5, 6, 15, 16, 31]) (.cond (.t 31) .skip (.exit 2))) (.seq (.block 3 (.seq (.reg [⟨some 34, .mov (.t 15), none⟩,
 ⟨some 35, .mov (.t 2), none⟩,
 ⟨some 36, .bin .mul .i64 (.t 34) (.t 35), none⟩,
 ⟨some 37, .mov (.t 16), none⟩,
 ⟨some 38, .bin .add .i64 (.t 36) (.t 37), none⟩,
 ⟨some 39, .bin .mul .i64 (.c (Go.Value.int Go.IntKind.i64 3)) (.t 38), none⟩,
 ⟨some 17, .mov (.t 39), none⟩] [0, 1, 2, 3, 4, 5, 6, 15, 16, 17]) (.seq (.reg [⟨some 40, .mov (.t 16), none⟩,
 ⟨some 41, .mov (.t 4), none⟩,
 ⟨some 42, .bin .sub .i64 (.t 40) (.t 41), none⟩,
 ⟨some 43, .mov (.t 4), none⟩,
 ⟨some 44, .mov (.t 16), none⟩,
 ⟨some 45, .bin .sub .i64 (.t 43) (.t 44), none⟩,
 ⟨some 46, .mx (.t 42) (.t 45), none⟩,
 ⟨some 47, .mov (.t 15), none⟩,
 ⟨some 48, .mov (.t 5), none⟩,
 ⟨some 49, .bin .sub .i64 (.t 47) (.t 48), none⟩,
 ⟨some 50, .mov (.t 5), none⟩,
 ⟨some 51, .mov (.t 15), none⟩,
 ⟨some 52, .bin .sub .i64 (.t 50) (.t 51), none⟩,
 ⟨some 53, .mx (.t 49) (.t 52), none⟩,
 ⟨some 18, .mov (.t 46), none⟩,
 ⟨some 19, .mov (.t 53), none⟩] [0, 1, 2, 3, 4, 5, 6, 15, 16, 17, 18, 19]) (.seq (.opq 2 [0, 1, 2, 3, 4, 5, 6, 15, 16, 17, 18, 19] L_grown_i2) (.seq (.opq 3 [0, 1, 2, 3, 4, 5, 6, 15, 16, 17, 18, 19, 20] L_grown_i3) (.seq (.reg [⟨some 22, .mov (.c (Go.Value.int Go.IntKind.i64 0)), none⟩] [0, 1, 2, 3, 4, 5, 6, 15, 16, 17, 21, 22]) (.block 4 (.opq 4 [0, 1, 2, 3, 4, 5, 6, 15, 16, 17, 21, 22] (.loop L_grown_i4))))))))) (.reg [⟨some 32, .mov (.t 16), none⟩,
 ⟨some 33, .bin .add .i64 (.t 32) (.c (Go.Value.int Go.IntKind.i64 1)), none⟩,
 ⟨some 16, .mov (.t 33), none⟩] [0, 1, 2, 3, 4, 5, 6, 15, 16])))
def L_grown_i0 : IC := (.seq (.seq (.reg [⟨some 24, .mov (.t 15), none⟩,
 ⟨some 25, .mov (.t 3), none⟩,
 ⟨some 26, .cmp .lss (.t 24) (.t 25), none⟩] [0, 1, 2, 3, 4, 5, 6, 15, 26]) (.cond (.t 26) .skip (.exit 0))) (.seq (.block 1 (.seq (.reg [⟨some 16, .mov (.c (Go.Value.int Go.IntKind.i64 0)), none⟩] [0, 1, 2, 3, 4, 5, 6, 15, 16]) (.block 2 (.opq 1 [0, 1, 2, 3, 4, 5, 6, 15, 16] (.loop L_grown_i1))))) (.reg [⟨some 27, .mov (.t 15), none⟩,
 ⟨some 28, .bin .add .i64 (.t 27) (.c (Go.Value.int Go.IntKind.i64 1)), none⟩,
 ⟨some 15, .mov (.t 28), none⟩] [0, 1, 2, 3, 4, 5, 6, 15])))
def L_grown_f : IFn := ⟨130, [.t 14], (.seq (.reg [⟨some 14, .mov (.c (Go.Value.bool false)), none⟩] [0, 1, 2, 3, 4, 5, 6]) (.seq (.seq (.reg [⟨some 15, .mov (.c (Go.Value.int Go.IntKind.i64 0)), none⟩] [0, 1, 2, 3, 4, 5, 6, 15]) (.block 0 (.opq 0 [0, 1, 2, 3, 4, 5, 6, 15] (.loop L_grown_i0)))) (.seq (.reg [⟨some 14, .mov (.c (Go.Value.bool true)), none⟩] [14]) .ret)))⟩
theorem L_grown_e5 {R : Type} (L_grown_l0 : (Heap → Option R) → (Bool → Heap → Option R) → Nat → Option Addr → Nat → Nat → Option Addr → Nat → Nat → Int → Int → Int → Int → Bool → Int → Heap → Option R) (L_grown_l1 : (Option Addr → Nat → Nat → Option Addr → Nat → Nat → Int → Int → Int → Int → Bool → Int → Heap → Option R) → (Bool → Heap → Option R) → Nat → Option Addr → Nat → Nat → Option Addr → Nat → Nat → Int → Int → Int → Int → Bool → Int → Int → Heap → Option R) (L_grown_p2 : Option Addr → Nat → Nat → Option Addr → Nat → Nat → Int → Int → Int → Int → Bool → Int → Int → Int → Int → Int → (Option Addr → Nat → Nat → Option Addr → Nat → Nat → Int → Int → Int → Int → Bool → Int → Int → Int → Int → Int → Bool → Option R) → Option R) (L_grown_p3 : Option Addr → Nat → Nat → Option Addr → Nat → Nat → Int → Int → Int → Int → Bool → Int → Int → Int → Int → Int → Bool → Heap → (Option Addr → Nat → Nat → Option Addr → Nat → Nat → Int → Int → Int → Int → Bool → Int → Int → Int → Option Addr → Heap → Option R) → Option R) (L_grown_l4 : (Option Addr → Nat → Nat → Option Addr → Nat → Nat → Int → Int → Int → Int → Bool → Int → Int → Option R) → (Bool → Option R) → Nat → Option Addr → Nat → Nat → Option Addr → Nat → Nat → Int → Int → Int → Int → Bool → Int → Int → Int → Option Addr → Int → Heap → Option R) (L_grown_p5 : Option Addr → Nat → Nat → Option Addr → Nat → Nat → Int → Int → Int → Int → Bool → Int → Int → Int → Option Addr → Int → Heap → (Option Addr → Nat → Nat → Option Addr → Nat → Nat → Int → Int → Int → Int → Bool → Int → Int → Int → Option Addr → Int → Option R) → (Bool → Option R) → Option R) (k : Nat) (q692 : Option Addr) (l693 : Nat) (c694 : Nat) (q695 : Option Addr) (l696 : Nat) (c697 : Nat) (n698 : Int) (n699 : Int) (n700 : Int) (n701 : Int) (t702 : Bool) (n703 : Int) (n704 : Int) (n705 : Int) (p706 : Option Addr) (n707 : Int) (H : Heap) (K : Xit → Env → Heap → Option R) : evJ (L_grown_Ct) (L_grown_Jt k L_grown_l0 L_grown_l1 L_grown_p2 L_grown_p3 L_grown_l4 L_grown_p5) L_grown_i5 (List.zip [0, 1, 2, 3, 4, 5, 6, 15, 16, 17, 21, 22] [.slice q692 l693 c694, .slice q695 l696 c697, .int .i64 n698, .int .i64 n699, .int .i64 n700, .int .i64 n701, .bool t702, .int .i64 n703, .int .i64 n704, .int .i64 n705, .pointer p706, .int .i64 n707]) H (fun x e' H' => K x (clean e' ((⟨[0, 1, 2, 3, 4, 5, 6, 15, 16, 17, 21, 22], [], [14]⟩ : Out).of x)) H') = L_grown_p5_b k q692 l693 c694 q695 l696 c697 n698 n699 n700 n701 t702 n703 n704 n705 p706 n707 H (fun q1444 l1445 c1446 q1447 l1448 c1449 n1450 n1451 n1452 n1453 t1454 n1455 n1456 n1457 p1458 n1459 => K .normal [(0, .slice q1444 l1445 c1446), (1, .slice q1447 l1448 c1449), (2, .int .i64 n1450), (3, .int .i64 n1451), (4, .int .i64 n1452), (5, .int .i64 n1453), (6, .bool t1454), (15, .int .i64 n1455), (16, .int .i64 n1456), (17, .int .i64 n1457), (21, .pointer p1458), (22, .int .i64 n1459)] H) (fun t1460 => K .ret [(14, .bool t1460)] H) := by kernel_rfl
theorem L_grown_j5 {R : Type} (k : Nat) : JS Try.prog 130 (L_grown_a5 R k k) [0, 1, 2, 3, 4, 5, 6, 15, 16, 17, 21, 22] ⟨[0, 1, 2, 3, 4, 5, 6, 15, 16, 17, 21, 22], [], [14]⟩ (sel [1, 0, 1, 0, 0, 1, 0, 0, 1, 0, 0, 1, 0, 0, 1, 1, 1, 1, 1, 0, 0, 1, 0] (Try.f28.body.getD .skip)) :=
  piece_ok (nt := 130) (c := (sel [1, 0, 1, 0, 0, 1, 0, 0, 1, 0, 0, 1, 0, 0, 1, 1, 1, 1, 1, 0, 0, 1, 0] (Try.f28.body.getD .skip))) (C := L_grown_C R k) (an := An) (t := (.node (.seq (.reg [0, 1, 2, 3, 4, 5, 6, 15, 16, 17, 21, 22, 23] [[], [], [], [1, 2], [0, 1, 2, 3], [0, 1, 2, 3, 4], [], [], [], [7, 8], [6, 7, 8, 9], [6, 7, 8, 9, 10], [0, 1, 2, 3, 4, 5, 6, 7, 8, 9, 10, 11], [0, 1, 2, 3, 4, 5, 6, 7, 8, 9, 10, 11, 12]]) (.seq (.reg [0, 1, 2, 3, 4, 5, 6, 15, 16, 17, 21, 22, 129] []) (.cond (.seq (.reg [14] []) .leaf) .leaf))))) (ic := L_grown_i5) (L_grown_S R k) (L_grown_J R k) (by kernel_rfl) (And.intro True.intro (And.intro True.intro (And.intro (And.intro True.intro True.intro) True.intro))) (L_grown_a5 R k k)
    (fun vals H K r h => by
      unfold L_grown_a5 L_grown_aa5 at h
      split at h <;> first | (cases h; done) | exact Eq.trans (L_grown_e5 (L_grown_l0 k) (L_grown_l1 k) (L_grown_p2 k) (L_grown_p3 k) (L_grown_l4 k) (L_grown_p5 k) k _ _ _ _ _ _ _ _ _ _ _ _ _ _ _ _ H K) h)
theorem L_grown_e4 {R : Type} (L_grown_l0 : (Heap → Option R) → (Bool → Heap → Option R) → Nat → Option Addr → Nat → Nat → Option Addr → Nat → Nat → Int → Int → Int → Int → Bool → Int → Heap → Option R) (L_grown_l1 : (Option Addr → Nat → Nat → Option Addr → Nat → Nat → Int → Int → Int → Int → Bool → Int → Heap → Option R) → (Bool → Heap → Option R) → Nat → Option Addr → Nat → Nat → Option Addr → Nat → Nat → Int → Int → Int → Int → Bool → Int → Int → Heap → Option R) (L_grown_p2 : Option Addr → Nat → Nat → Option Addr → Nat → Nat → Int → Int → Int → Int → Bool → Int → Int → Int → Int → Int → (Option Addr → Nat → Nat → Option Addr → Nat → Nat → Int → Int → Int → Int → Bool → Int → Int → Int → Int → Int → Bool → Option R) → Option R) (L_grown_p3 : Option Addr → Nat → Nat → Option Addr → Nat → Nat → Int → Int → Int → Int → Bool → Int → Int → Int → Int → Int → Bool → Heap → (Option Addr → Nat → Nat → Option Addr → Nat → Nat → Int → Int → Int → Int → Bool → Int → Int → Int → Option Addr → Heap → Option R) → Option R) (L_grown_l4 : (Option Addr → Nat → Nat → Option Addr → Nat → Nat → Int → Int → Int → Int → Bool → Int → Int → Option R) → (Bool → Option R) → Nat → Option Addr → Nat → Nat → Option Addr → Nat → Nat → Int → Int → Int → Int → Bool → Int → Int → Int → Option Addr → Int → Heap → Option R) (L_grown_p5 : Option Addr → Nat → Nat → Option Addr → Nat → Nat → Int → Int → Int → Int → Bool → Int → Int → Int → Option Addr → Int → Heap → (Option Addr → Nat → Nat → Option Addr → Nat → Nat → Int → Int → Int → Int → Bool → Int → Int → Int → Option Addr → Int → Option R) → (Bool → Option R) → Option R) (k n : Nat) (q676 : Option Addr) (l677 : Nat) (c678 : Nat) (q679 : Option Addr) (l680 : Nat) (c681 : Nat) (n682 : Int) (n683 : Int) (n684 : Int) (n685 : Int) (t686 : Bool) (n687 : Int) (n688 : Int) (n689 : Int) (p690 : Option Addr) (n691 : Int) (H : Heap) (K : Xit → Env → Heap → Option R) : evJ (L_grown_Ct) (L_grown_Jt k L_grown_l0 L_grown_l1 L_grown_p2 L_grown_p3 L_grown_l4 L_grown_p5) L_grown_i4 (List.zip [0, 1, 2, 3, 4, 5, 6, 15, 16, 17, 21, 22] [.slice q676 l677 c678, .slice q679 l680 c681, .int .i64 n682, .int .i64 n683, .int .i64 n684, .int .i64 n685, .bool t686, .int .i64 n687, .int .i64 n688, .int .i64 n689, .pointer p690, .int .i64 n691]) H (fun x e' H' => match x with | .normal => L_grown_aa4 L_grown_l4 n ((clean e' [0, 1, 2, 3, 4, 5, 6, 15, 16, 17, 21, 22]).map (·.2)) H' K | x => K x (clean e' ((⟨[], [(4, [0, 1, 2, 3, 4, 5, 6, 15, 16])], [14]⟩ : Out).of x)) H') = L_grown_l4_b L_grown_p5 (L_grown_l4 (fun q1430 l1431 c1432 q1433 l1434 c1435 n1436 n1437 n1438 n1439 t1440 n1441 n1442 => K (.exit 4) [(0, .slice q1430 l1431 c1432), (1, .slice q1433 l1434 c1435), (2, .int .i64 n1436), (3, .int .i64 n1437), (4, .int .i64 n1438), (5, .int .i64 n1439), (6, .bool t1440), (15, .int .i64 n1441), (16, .int .i64 n1442)] H) (fun t1443 => K .ret [(14, .bool t1443)] H) n) (fun q1430 l1431 c1432 q1433 l1434 c1435 n1436 n1437 n1438 n1439 t1440 n1441 n1442 => K (.exit 4) [(0, .slice q1430 l1431 c1432), (1, .slice q1433 l1434 c1435), (2, .int .i64 n1436), (3, .int .i64 n1437), (4, .int .i64 n1438), (5, .int .i64 n1439), (6, .bool t1440), (15, .int .i64 n1441), (16, .int .i64 n1442)] H) (fun t1443 => K .ret [(14, .bool t1443)] H) k q676 l677 c678 q679 l680 c681 n682 n683 n684 n685 t686 n687 n688 n689 p690 n691 H := by kernel_rfl
theorem L_grown_j4 {R : Type} (k : Nat) : JS Try.prog 130 (L_grown_a4 R k k) [0, 1, 2, 3, 4, 5, 6, 15, 16, 17, 21, 22] ⟨[], [(4, [0, 1, 2, 3, 4, 5, 6, 15, 16])], [14]⟩ (.loop (sel [1, 0, 1, 0, 0, 1, 0, 0, 1, 0, 0, 1, 0, 0, 1, 1, 1, 1, 1, 0, 0] (Try.f28.body.getD .skip))) :=
  loop_ok (nt := 130) (c := (sel [1, 0, 1, 0, 0, 1, 0, 0, 1, 0, 0, 1, 0, 0, 1, 1, 1, 1, 1, 0, 0] (Try.f28.body.getD .skip))) (C := L_grown_C R k) (an := An) (t := (.seq (.seq (.reg [0, 1, 2, 3, 4, 5, 6, 15, 16, 17, 21, 22, 100] []) (.cond .leaf .leaf)) (.seq (.opq 5 [0, 1, 2, 3, 4, 5, 6, 15, 16, 17, 21, 22] ⟨[0, 1, 2, 3, 4, 5, 6, 15, 16, 17, 21, 22], [], [14]⟩ (.node (.seq (.reg [0, 1, 2, 3, 4, 5, 6, 15, 16, 17, 21, 22, 23] [[], [], [], [1, 2], [0, 1, 2, 3], [0, 1, 2, 3, 4], [], [], [], [7, 8], [6, 7, 8, 9], [6, 7, 8, 9, 10], [0, 1, 2, 3, 4, 5, 6, 7, 8, 9, 10, 11], [0, 1, 2, 3, 4, 5, 6, 7, 8, 9, 10, 11, 12]]) (.seq (.reg [0, 1, 2, 3, 4, 5, 6, 15, 16, 17, 21, 22, 129] []) (.cond (.seq (.reg [14] []) .leaf) .leaf))))) (.reg [0, 1, 2, 3, 4, 5, 6, 15, 16, 17, 21, 22] [])))) (ic := L_grown_i4) (L_grown_S R k) (L_grown_J R k) (by kernel_rfl) (And.intro (And.intro True.intro (And.intro True.intro True.intro)) (And.intro (L_grown_j5 k) True.intro)) (L_grown_a4 R k) (fun vals H K => by unfold L_grown_a4 L_grown_aa4; split <;> rfl)
    (fun n vals H K r h => by
      unfold L_grown_a4 L_grown_aa4 at h
      split at h <;> first | (cases h; done) | exact Eq.trans (L_grown_e4 (L_grown_l0 k) (L_grown_l1 k) (L_grown_p2 k) (L_grown_p3 k) (L_grown_l4 k) (L_grown_p5 k) k n _ _ _ _ _ _ _ _ _ _ _ _ _ _ _ _ H K) h) k
theorem L_grown_e3 {R : Type} (L_grown_l0 : (Heap → Option R) → (Bool → Heap → Option R) → Nat → Option Addr → Nat → Nat → Option Addr → Nat → Nat → Int → Int → Int → Int → Bool → Int → Heap → Option R) (L_grown_l1 : (Option Addr → Nat → Nat → Option Addr → Nat → Nat → Int → Int → Int → Int → Bool → Int → Heap → Option R) → (Bool → Heap → Option R) → Nat → Option Addr → Nat → Nat → Option Addr → Nat → Nat → Int → Int → Int → Int → Bool → Int → Int → Heap → Option R) (L_grown_p2 : Option Addr → Nat → Nat → Option Addr → Nat → Nat → Int → Int → Int → Int → Bool → Int → Int → Int → Int → Int → (Option Addr → Nat → Nat → Option Addr → Nat → Nat → Int → Int → Int → Int → Bool → Int → Int → Int → Int → Int → Bool → Option R) → Option R) (L_grown_p3 : Option Addr → Nat → Nat → Option Addr → Nat → Nat → Int → Int → Int → Int → Bool → Int → Int → Int → Int → Int → Bool → Heap → (Option Addr → Nat → Nat → Option Addr → Nat → Nat → Int → Int → Int → Int → Bool → Int → Int → Int → Option Addr → Heap → Option R) → Option R) (L_grown_l4 : (Option Addr → Nat → Nat → Option Addr → Nat → Nat → Int → Int → Int → Int → Bool → Int → Int → Option R) → (Bool → Option R) → Nat → Option Addr → Nat → Nat → Option Addr → Nat → Nat → Int → Int → Int → Int → Bool → Int → Int → Int → Option Addr → Int → Heap → Option R) (L_grown_p5 : Option Addr → Nat → Nat → Option Addr → Nat → Nat → Int → Int → Int → Int → Bool → Int → Int → Int → Option Addr → Int → Heap → (Option Addr → Nat → Nat → Option Addr → Nat → Nat → Int → Int → Int → Int → Bool → Int → Int → Int → Option Addr → Int → Option R) → (Bool → Option R) → Option R) (k : Nat) (q604 : Option Addr) (l605 : Nat) (c606 : Nat) (q607 : Option Addr) (l608 : Nat) (c609 : Nat) (n610 : Int) (n611 : Int) (n612 : Int) (n613 : Int) (t614 : Bool) (n615 : Int) (n616 : Int) (n617 : Int) (n618 : Int) (n619 : Int) (t620 : Bool) (H : Heap) (K : Xit → Env → Heap → Option R) : evJ (L_grown_Ct) (L_grown_Jt k L_grown_l0 L_grown_l1 L_grown_p2 L_grown_p3 L_grown_l4 L_grown_p5) L_grown_i3 (List.zip [0, 1, 2, 3, 4, 5, 6, 15, 16, 17, 18, 19, 20] [.slice q604 l605 c606, .slice q607 l608 c609, .int .i64 n610, .int .i64 n611, .int .i64 n612, .int .i64 n613, .bool t614, .int .i64 n615, .int .i64 n616, .int .i64 n617, .int .i64 n618, .int .i64 n619, .bool t620]) H (fun x e' H' => K x (clean e' ((⟨[0, 1, 2, 3, 4, 5, 6, 15, 16, 17, 21], [], []⟩ : Out).of x)) H') = L_grown_p3_b k q604 l605 c606 q607 l608 c609 n610 n611 n612 n613 t614 n615 n616 n617 n618 n619 t620 H (fun q1415 l1416 c1417 q1418 l1419 c1420 n1421 n1422 n1423 n1424 t1425 n1426 n1427 n1428 p1429 H => K .normal [(0, .slice q1415 l1416 c1417), (1, .slice q1418 l1419 c1420), (2, .int .i64 n1421), (3, .int .i64 n1422), (4, .int .i64 n1423), (5, .int .i64 n1424), (6, .bool t1425), (15, .int .i64 n1426), (16, .int .i64 n1427), (17, .int .i64 n1428), (21, .pointer p1429)] H) := by kernel_rfl
theorem L_grown_j3 {R : Type} (k : Nat) : JS Try.prog 130 (L_grown_a3 R k k) [0, 1, 2, 3, 4, 5, 6, 15, 16, 17, 18, 19, 20] ⟨[0, 1, 2, 3, 4, 5, 6, 15, 16, 17, 21], [], []⟩ (sel [1, 0, 1, 0, 0, 1, 0, 0, 1, 0, 0, 1, 0, 0, 1, 1, 1, 0] (Try.f28.body.getD .skip)) :=
  piece_ok (nt := 130) (c := (sel [1, 0, 1, 0, 0, 1, 0, 0, 1, 0, 0, 1, 0, 0, 1, 1, 1, 0] (Try.f28.body.getD .skip))) (C := L_grown_C R k) (an := An) (t := (.reg [0, 1, 2, 3, 4, 5, 6, 15, 16, 17, 21] [])) (ic := L_grown_i3) (L_grown_S R k) (L_grown_J R k) (by kernel_rfl) True.intro (L_grown_a3 R k k)
    (fun vals H K r h => by
      unfold L_grown_a3 L_grown_aa3 at h
      split at h <;> first | (cases h; done) | exact Eq.trans (L_grown_e3 (L_grown_l0 k) (L_grown_l1 k) (L_grown_p2 k) (L_grown_p3 k) (L_grown_l4 k) (L_grown_p5 k) k _ _ _ _ _ _ _ _ _ _ _ _ _ _ _ _ _ H K) h)
theorem L_grown_e2 {R : Type} (L_grown_l0 : (Heap → Option R) → (Bool → Heap → Option R) → Nat → Option Addr → Nat → Nat → Option Addr → Nat → Nat → Int → Int → Int → Int → Bool → Int → Heap → Option R) (L_grown_l1 : (Option Addr → Nat → Nat → Option Addr → Nat → Nat → Int → Int → Int → Int → Bool → Int → Heap → Option R) → (Bool → Heap → Option R) → Nat → Option Addr → Nat → Nat → Option Addr → Nat → Nat → Int → Int → Int → Int → Bool → Int → Int → Heap → Option R) (L_grown_p2 : Option Addr → Nat → Nat → Option Addr → Nat → Nat → Int → Int → Int → Int → Bool → Int → Int → Int → Int → Int → (Option Addr → Nat → Nat → Option Addr → Nat → Nat → Int → Int → Int → Int → Bool → Int → Int → Int → Int → Int → Bool → Option R) → Option R) (L_grown_p3 : Option Addr → Nat → Nat → Option Addr → Nat → Nat → Int → Int → Int → Int → Bool → Int → Int → Int → Int → Int → Bool → Heap → (Option Addr → Nat → Nat → Option Addr → Nat → Nat → Int → Int → Int → Int → Bool → Int → Int → Int → Option Addr → Heap → Option R) → Option R) (L_grown_l4 : (Option Addr → Nat → Nat → Option Addr → Nat → Nat → Int → Int → Int → Int → Bool → Int → Int → Option R) → (Bool → Option R) → Nat → Option Addr → Nat → Nat → Option Addr → Nat → Nat → Int → Int → Int → Int → Bool → Int → Int → Int → Option Addr → Int → Heap → Option R) (L_grown_p5 : Option Addr → Nat → Nat → Option Addr → Nat → Nat → Int → Int → Int → Int → Bool → Int → Int → Int → Option Addr → Int → Heap → (Option Addr → Nat → Nat → Option Addr → Nat → Nat → Int → Int → Int → Int → Bool → Int → Int → Int → Option Addr → Int → Option R) → (Bool → Option R) → Option R) (k : Nat) (q554 : Option Addr) (l555 : Nat) (c556 : Nat) (q557 : Option Addr) (l558 : Nat) (c559 : Nat) (n560 : Int) (n561 : Int) (n562 : Int) (n563 : Int) (t564 : Bool) (n565 : Int) (n566 : Int) (n567 : Int) (n568 : Int) (n569 : Int) (H : Heap) (K : Xit → Env → Heap → Option R) : evJ (L_grown_Ct) (L_grown_Jt k L_grown_l0 L_grown_l1 L_grown_p2 L_grown_p3 L_grown_l4 L_grown_p5) L_grown_i2 (List.zip [0, 1, 2, 3, 4, 5, 6, 15, 16, 17, 18, 19] [.slice q554 l555 c556, .slice q557 l558 c559, .int .i64 n560, .int .i64 n561, .int .i64 n562, .int .i64 n563, .bool t564, .int .i64 n565, .int .i64 n566, .int .i64 n567, .int .i64 n568, .int .i64 n569]) H (fun x e' H' => K x (clean e' ((⟨[0, 1, 2, 3, 4, 5, 6, 15, 16, 17, 18, 19, 20], [], []⟩ : Out).of x)) H') = L_grown_p2_b k q554 l555 c556 q557 l558 c559 n560 n561 n562 n563 t564 n565 n566 n567 n568 n569 (fun q1398 l1399 c1400 q1401 l1402 c1403 n1404 n1405 n1406 n1407 t1408 n1409 n1410 n1411 n1412 n1413 t1414 => K .normal [(0, .slice q1398 l1399 c1400), (1, .slice q1401 l1402 c1403), (2, .int .i64 n1404), (3, .int .i64 n1405), (4, .int .i64 n1406), (5, .int .i64 n1407), (6, .bool t1408), (15, .int .i64 n1409), (16, .int .i64 n1410), (17, .int .i64 n1411), (18, .int .i64 n1412), (19, .int .i64 n1413), (20, .bool t1414)] H) := by kernel_rfl
theorem L_grown_j2 {R : Type} (k : Nat) : JS Try.prog 130 (L_grown_a2 R k k) [0, 1, 2, 3, 4, 5, 6, 15, 16, 17, 18, 19] ⟨[0, 1, 2, 3, 4, 5, 6, 15, 16, 17, 18, 19, 20], [], []⟩ (sel [1, 0, 1, 0, 0, 1, 0, 0, 1, 0, 0, 1, 0, 0, 1, 1, 0] (Try.f28.body.getD .skip)) :=
  piece_ok (nt := 130) (c := (sel [1, 0, 1, 0, 0, 1, 0, 0, 1, 0, 0, 1, 0, 0, 1, 1, 0] (Try.f28.body.getD .skip))) (C := L_grown_C R k) (an := An) (t := (.reg [0, 1, 2, 3, 4, 5, 6, 15, 16, 17, 18, 19, 20] [])) (ic := L_grown_i2) (L_grown_S R k) (L_grown_J R k) (by kernel_rfl) True.intro (L_grown_a2 R k k)
    (fun vals H K r h => by
      unfold L_grown_a2 L_grown_aa2 at h
      split at h <;> first | (cases h; done) | exact Eq.trans (L_grown_e2 (L_grown_l0 k) (L_grown_l1 k) (L_grown_p2 k) (L_grown_p3 k) (L_grown_l4 k) (L_grown_p5 k) k _ _ _ _ _ _ _ _ _ _ _ _ _ _ _ _ H K) h)
theorem L_grown_e1 {R : Type} (L_grown_l0 : (Heap → Option R) → (Bool → Heap → Option R) → Nat → Option Addr → Nat → Nat → Option Addr → Nat → Nat → Int → Int → Int → Int → Bool → Int → Heap → Option R) (L_grown_l1 : (Option Addr → Nat → Nat → Option Addr → Nat → Nat → Int → Int → Int → Int → Bool → Int → Heap → Option R) → (Bool → Heap → Option R) → Nat → Option Addr → Nat → Nat → Option Addr → Nat → Nat → Int → Int → Int → Int → Bool → Int → Int → Heap → Option R) (L_grown_p2 : Option Addr → Nat → Nat → Option Addr → Nat → Nat → Int → Int → Int → Int → Bool → Int → Int → Int → Int → Int → (Option Addr → Nat → Nat → Option Addr → Nat → Nat → Int → Int → Int → Int → Bool → Int → Int → Int → Int → Int → Bool → Option R) → Option R) (L_grown_p3 : Option Addr → Nat → Nat → Option Addr → Nat → Nat → Int → Int → Int → Int → Bool → Int → Int → Int → Int → Int → Bool → Heap → (Option Addr → Nat → Nat → Option Addr → Nat → Nat → Int → Int → Int → Int → Bool → Int → Int → Int → Option Addr → Heap → Option R) → Option R) (L_grown_l4 : (Option Addr → Nat → Nat → Option Addr → Nat → Nat → Int → Int → Int → Int → Bool → Int → Int → Option R) → (Bool → Option R) → Nat → Option Addr → Nat → Nat → Option Addr → Nat → Nat → Int → Int → Int → Int → Bool → Int → Int → Int → Option Addr → Int → Heap → Option R) (L_grown_p5 : Option Addr → Nat → Nat → Option Addr → Nat → Nat → Int → Int → Int → Int → Bool → Int → Int → Int → Option Addr → Int → Heap → (Option Addr → Nat → Nat → Option Addr → Nat → Nat → Int → Int → Int → Int → Bool → Int → Int → Int → Option Addr → Int → Option R) → (Bool → Option R) → Option R) (k n : Nat) (q541 : Option Addr) (l542 : Nat) (c543 : Nat) (q544 : Option Addr) (l545 : Nat) (c546 : Nat) (n547 : Int) (n548 : Int) (n549 : Int) (n550 : Int) (t551 : Bool) (n552 : Int) (n553 : Int) (H : Heap) (K : Xit → Env → Heap → Option R) : evJ (L_grown_Ct) (L_grown_Jt k L_grown_l0 L_grown_l1 L_grown_p2 L_grown_p3 L_grown_l4 L_grown_p5) L_grown_i1 (List.zip [0, 1, 2, 3, 4, 5, 6, 15, 16] [.slice q541 l542 c543, .slice q544 l545 c546, .int .i64 n547, .int .i64 n548, .int .i64 n549, .int .i64 n550, .bool t551, .int .i64 n552, .int .i64 n553]) H (fun x e' H' => match x with | .normal => L_grown_aa1 L_grown_l1 n ((clean e' [0, 1, 2, 3, 4, 5, 6, 15, 16]).map (·.2)) H' K | x => K x (clean e' ((⟨[], [(2, [0, 1, 2, 3, 4, 5, 6, 15])], [14]⟩ : Out).of x)) H') = L_grown_l1_b L_grown_p2 L_grown_p3 L_grown_l4 (L_grown_l1 (fun q1385 l1386 c1387 q1388 l1389 c1390 n1391 n1392 n1393 n1394 t1395 n1396 H => K (.exit 2) [(0, .slice q1385 l1386 c1387), (1, .slice q1388 l1389 c1390), (2, .int .i64 n1391), (3, .int .i64 n1392), (4, .int .i64 n1393), (5, .int .i64 n1394), (6, .bool t1395), (15, .int .i64 n1396)] H) (fun t1397 H => K .ret [(14, .bool t1397)] H) n) (fun q1385 l1386 c1387 q1388 l1389 c1390 n1391 n1392 n1393 n1394 t1395 n1396 H => K (.exit 2) [(0, .slice q1385 l1386 c1387), (1, .slice q1388 l1389 c1390), (2, .int .i64 n1391), (3, .int .i64 n1392), (4, .int .i64 n1393), (5, .int .i64 n1394), (6, .bool t1395), (15, .int .i64 n1396)] H) (fun t1397 H => K .ret [(14, .bool t1397)] H) k q541 l542 c543 q544 l545 c546 n547 n548 n549 n550 t551 n552 n553 H := by kernel_rfl
theorem L_grown_j1 {R : Type} (k : Nat) : JS Try.prog 130 (L_grown_a1 R k k) [0, 1, 2, 3, 4, 5, 6, 15, 16] ⟨[], [(2, [0, 1, 2, 3, 4, 5, 6, 15])], [14]⟩ (.loop (sel [1, 0, 1, 0, 0, 1, 0, 0, 1, 0, 0] (Try.f28.body.getD .skip))) :=
  loop_ok (nt := 130) (c := (sel [1, 0, 1, 0, 0, 1, 0, 0, 1, 0, 0] (Try.f28.body.getD .skip))) (C := L_grown_C R k) (an := An) (t := (.seq (.seq (.reg [0, 1, 2, 3, 4, 5, 6, 15, 16, 31] []) (.cond .leaf .leaf)) (.seq (.node (.seq (.reg [0, 1, 2, 3, 4, 5, 6, 15, 16, 17] []) (.seq (.reg [0, 1, 2, 3, 4, 5, 6, 15, 16, 17, 18, 19] []) (.seq (.opq 2 [0, 1, 2, 3, 4, 5, 6, 15, 16, 17, 18, 19] ⟨[0, 1, 2, 3, 4, 5, 6, 15, 16, 17, 18, 19, 20], [], []⟩ (.reg [0, 1, 2, 3, 4, 5, 6, 15, 16, 17, 18, 19, 20] [])) (.seq (.opq 3 [0, 1, 2, 3, 4, 5, 6, 15, 16, 17, 18, 19, 20] ⟨[0, 1, 2, 3, 4, 5, 6, 15, 16, 17, 21], [], []⟩ (.reg [0, 1, 2, 3, 4, 5, 6, 15, 16, 17, 21] [])) (.seq (.reg [0, 1, 2, 3, 4, 5, 6, 15, 16, 17, 21, 22] []) (.node (.opq 4 [0, 1, 2, 3, 4, 5, 6, 15, 16, 17, 21, 22] ⟨[], [(4, [0, 1, 2, 3, 4, 5, 6, 15, 16])], [14]⟩ (.node (.seq (.seq (.reg [0, 1, 2, 3, 4, 5, 6, 15, 16, 17, 21, 22, 100] []) (.cond .leaf .leaf)) (.seq (.opq 5 [0, 1, 2, 3, 4, 5, 6, 15, 16, 17, 21, 22] ⟨[0, 1, 2, 3, 4, 5, 6, 15, 16, 17, 21, 22], [], [14]⟩ (.node (.seq (.reg [0, 1, 2, 3, 4, 5, 6, 15, 16, 17, 21, 22, 23] [[], [], [], [1, 2], [0, 1, 2, 3], [0, 1, 2, 3, 4], [], [], [], [7, 8], [6, 7, 8, 9], [6, 7, 8, 9, 10], [0, 1, 2, 3, 4, 5, 6, 7, 8, 9, 10, 11], [0, 1, 2, 3, 4, 5, 6, 7, 8, 9, 10, 11, 12]]) (.seq (.reg [0, 1, 2, 3, 4, 5, 6, 15, 16, 17, 21, 22, 129] []) (.cond (.seq (.reg [14] []) .leaf) .leaf))))) (.reg [0, 1, 2, 3, 4, 5, 6, 15, 16, 17, 21, 22] [])))))))))))) (.reg [0, 1, 2, 3, 4, 5, 6, 15, 16] [])))) (ic := L_grown_i1) (L_grown_S R k) (L_grown_J R k) (by kernel_rfl) (And.intro (And.intro True.intro (And.intro True.intro True.intro)) (And.intro (And.intro True.intro (And.intro True.intro (And.intro (L_grown_j2 k) (And.intro (L_grown_j3 k) (And.intro True.intro (L_grown_j4 k)))))) True.intro)) (L_grown_a1 R k) (fun vals H K => by unfold L_grown_a1 L_grown_aa1; split <;> rfl)
    (fun n vals H K r h => by
      unfold L_grown_a1 L_grown_aa1 at h
      split at h <;> first | (cases h; done) | exact Eq.trans (L_grown_e1 (L_grown_l0 k) (L_grown_l1 k) (L_grown_p2 k) (L_grown_p3 k) (L_grown_l4 k) (L_grown_p5 k) k n _ _ _ _ _ _ _ _ _ _ _ _ _ H K) h) k
theorem L_grown_e0 {R : Type} (L_grown_l0 : (Heap → Option R) → (Bool → Heap → Option R) → Nat → Option Addr → Nat → Nat → Option Addr → Nat → Nat → Int → Int → Int → Int → Bool → Int → Heap → Option R) (L_grown_l1 : (Option Addr → Nat → Nat → Option Addr → Nat → Nat → Int → Int → Int → Int → Bool → Int → Heap → Option R) → (Bool → Heap → Option R) → Nat → Option Addr → Nat → Nat → Option Addr → Nat → Nat → Int → Int → Int → Int → Bool → Int → Int → Heap → Option R) (L_grown_p2 : Option Addr → Nat → Nat → Option Addr → Nat → Nat → Int → Int → Int → Int → Bool → Int → Int → Int → Int → Int → (Option Addr → Nat → Nat → Option Addr → Nat → Nat → Int → Int → Int → Int → Bool → Int → Int → Int → Int → Int → Bool → Option R) → Option R) (L_grown_p3 : Option Addr → Nat → Nat → Option Addr → Nat → Nat → Int → Int → Int → Int → Bool → Int → Int → Int → Int → Int → Bool → Heap → (Option Addr → Nat → Nat → Option Addr → Nat → Nat → Int → Int → Int → Int → Bool → Int → Int → Int → Option Addr → Heap → Option R) → Option R) (L_grown_l4 : (Option Addr → Nat → Nat → Option Addr → Nat → Nat → Int → Int → Int → Int → Bool → Int → Int → Option R) → (Bool → Option R) → Nat → Option Addr → Nat → Nat → Option Addr → Nat → Nat → Int → Int → Int → Int → Bool → Int → Int → Int → Option Addr → Int → Heap → Option R) (L_grown_p5 : Option Addr → Nat → Nat → Option Addr → Nat → Nat → Int → Int → Int → Int → Bool → Int → Int → Int → Option Addr → Int → Heap → (Option Addr → Nat → Nat → Option Addr → Nat → Nat → Int → Int → Int → Int → Bool → Int → Int → Int → Option Addr → Int → Option R) → (Bool → Option R) → Option R) (k n : Nat) (q529 : Option Addr) (l530 : Nat) (c531 : Nat) (q532 : Option Addr) (l533 : Nat) (c534 : Nat) (n535 : Int) (n536 : Int) (n537 : Int) (n538 : Int) (t539 : Bool) (n540 : Int) (H : Heap) (K : Xit → Env → Heap → Option R) : evJ (L_grown_Ct) (L_grown_Jt k L_grown_l0 L_grown_l1 L_grown_p2 L_grown_p3 L_grown_l4 L_grown_p5) L_grown_i0 (List.zip [0, 1, 2, 3, 4, 5, 6, 15] [.slice q529 l530 c531, .slice q532 l533 c534, .int .i64 n535, .int .i64 n536, .int .i64 n537, .int .i64 n538, .bool t539, .int .i64 n540]) H (fun x e' H' => match x with | .normal => L_grown_aa0 L_grown_l0 n ((clean e' [0, 1, 2, 3, 4, 5, 6, 15]).map (·.2)) H' K | x => K x (clean e' ((⟨[], [(0, [])], [14]⟩ : Out).of x)) H') = L_grown_l0_b L_grown_l1 (L_grown_l0 (fun H => K (.exit 0) [] H) (fun t1384 H => K .ret [(14, .bool t1384)] H) n) (fun H => K (.exit 0) [] H) (fun t1384 H => K .ret [(14, .bool t1384)] H) k q529 l530 c531 q532 l533 c534 n535 n536 n537 n538 t539 n540 H := by kernel_rfl
theorem L_grown_j0 {R : Type} (k : Nat) : JS Try.prog 130 (L_grown_a0 R k k) [0, 1, 2, 3, 4, 5, 6, 15] ⟨[], [(0, [])], [14]⟩ (.loop (sel [1, 0, 1, 0, 0] (Try.f28.body.getD .skip))) :=
  loop_ok (nt := 130) (c := (sel [1, 0, 1, 0, 0] (Try.f28.body.getD .skip))) (C := L_grown_C R k) (an := An) (t := (.seq (.seq (.reg [0, 1, 2, 3, 4, 5, 6, 15, 26] []) (.cond .leaf .leaf)) (.seq (.node (.seq (.reg [0, 1, 2, 3, 4, 5, 6, 15, 16] []) (.node (.opq 1 [0, 1, 2, 3, 4, 5, 6, 15, 16] ⟨[], [(2, [0, 1, 2, 3, 4, 5, 6, 15])], [14]⟩ (.node (.seq (.seq (.reg [0, 1, 2, 3, 4, 5, 6, 15, 16, 31] []) (.cond .leaf .leaf)) (.seq (.node (.seq (.reg [0, 1, 2, 3, 4, 5, 6, 15, 16, 17] []) (.seq (.reg [0, 1, 2, 3, 4, 5, 6, 15, 16, 17, 18, 19] []) (.seq (.opq 2 [0, 1, 2, 3, 4, 5, 6, 15, 16, 17, 18, 19] ⟨[0, 1, 2, 3, 4, 5, 6, 15, 16, 17, 18, 19, 20], [], []⟩ (.reg [0, 1, 2, 3, 4, 5, 6, 15, 16, 17, 18, 19, 20] [])) (.seq (.opq 3 [0, 1, 2, 3, 4, 5, 6, 15, 16, 17, 18, 19, 20] ⟨[0, 1, 2, 3, 4, 5, 6, 15, 16, 17, 21], [], []⟩ (.reg [0, 1, 2, 3, 4, 5, 6, 15, 16, 17, 21] [])) (.seq (.reg [0, 1, 2, 3, 4, 5, 6, 15, 16, 17, 21, 22] []) (.node (.opq 4 [0, 1, 2, 3, 4, 5, 6, 15, 16, 17, 21, 22] ⟨[], [(4, [0, 1, 2, 3, 4, 5, 6, 15, 16])], [14]⟩ (.node (.seq (.seq (.reg [0, 1, 2, 3, 4, 5, 6, 15, 16, 17, 21, 22, 100] []) (.cond .leaf .leaf)) (.seq (.opq 5 [0, 1, 2, 3, 4, 5, 6, 15, 16, 17, 21, 22] ⟨[0, 1, 2, 3, 4, 5, 6, 15, 16, 17, 21, 22], [], [14]⟩ (.node (.seq (.reg [0, 1, 2, 3, 4, 5, 6, 15, 16, 17, 21, 22, 23] [[], [], [], [1, 2], [0, 1, 2, 3], [0, 1, 2, 3, 4], [], [], [], [7, 8], [6, 7, 8, 9], [6, 7, 8, 9, 10], [0, 1, 2, 3, 4, 5, 6, 7, 8, 9, 10, 11], [0, 1, 2, 3, 4, 5, 6, 7, 8, 9, 10, 11, 12]]) (.seq (.reg [0, 1, 2, 3, 4, 5, 6, 15, 16, 17, 21, 22, 129] []) (.cond (.seq (.reg [14] []) .leaf) .leaf))))) (.reg [0, 1, 2, 3, 4, 5, 6, 15, 16, 17, 21, 22] [])))))))))))) (.reg [0, 1, 2, 3, 4, 5, 6, 15, 16] [])))))))) (.reg [0, 1, 2, 3, 4, 5, 6, 15] [])))) (ic := L_grown_i0) (L_grown_S R k) (L_grown_J R k) (by kernel_rfl) (And.intro (And.intro True.intro (And.intro True.intro True.intro)) (And.intro (And.intro True.intro (L_grown_j1 k)) True.intro)) (L_grown_a0 R k) (fun vals H K => by unfold L_grown_a0 L_grown_aa0; split <;> rfl)
    (fun n vals H K r h => by
      unfold L_grown_a0 L_grown_aa0 at h
      split at h <;> first | (cases h; done) | exact Eq.trans (L_grown_e0 (L_grown_l0 k) (L_grown_l1 k) (L_grown_p2 k) (L_grown_p3 k) (L_grown_l4 k) (L_grown_p5 k) k n _ _ _ _ _ _ _ _ _ _ _ _ H K) h) k
def L_grown_ca {R : Type} (f : Option Addr → Nat → Nat → Option Addr → Nat → Nat → Int → Int → Int → Int → Bool → Heap → (Bool → Heap → Option R) → Option R) (args : List Value) (H : Heap) (K : Value → Heap → Option R) : Option R :=
  match args with
  | [.slice q518 l519 c520, .slice q521 l522 c523, .int .i64 n524, .int .i64 n525, .int .i64 n526, .int .i64 n527, .bool t528] => f q518 l519 c520 q521 l522 c523 n524 n525 n526 n527 t528 H (fun t1461 H => K (.bool t1461) H)
  | _ => none
def L_grown_c (R : Type) (k : Nat) (args : List Value) (H : Heap) (K : Value → Heap → Option R) : Option R := L_grown_ca (L_grown k) args H K
theorem L_grown_e {R : Type} (L_grown_l0 : (Heap → Option R) → (Bool → Heap → Option R) → Nat → Option Addr → Nat → Nat → Option Addr → Nat → Nat → Int → Int → Int → Int → Bool → Int → Heap → Option R) (L_grown_l1 : (Option Addr → Nat → Nat → Option Addr → Nat → Nat → Int → Int → Int → Int → Bool → Int → Heap → Option R) → (Bool → Heap → Option R) → Nat → Option Addr → Nat → Nat → Option Addr → Nat → Nat → Int → Int → Int → Int → Bool → Int → Int → Heap → Option R) (L_grown_p2 : Option Addr → Nat → Nat → Option Addr → Nat → Nat → Int → Int → Int → Int → Bool → Int → Int → Int → Int → Int → (Option Addr → Nat → Nat → Option Addr → Nat → Nat → Int → Int → Int → Int → Bool → Int → Int → Int → Int → Int → Bool → Option R) → Option R) (L_grown_p3 : Option Addr → Nat → Nat → Option Addr → Nat → Nat → Int → Int → Int → Int → Bool → Int → Int → Int → Int → Int → Bool → Heap → (Option Addr → Nat → Nat → Option Addr → Nat → Nat → Int → Int → Int → Int → Bool → Int → Int → Int → Option Addr → Heap → Option R) → Option R) (L_grown_l4 : (Option Addr → Nat → Nat → Option Addr → Nat → Nat → Int → Int → Int → Int → Bool → Int → Int → Option R) → (Bool → Option R) → Nat → Option Addr → Nat → Nat → Option Addr → Nat → Nat → Int → Int → Int → Int → Bool → Int → Int → Int → Option Addr → Int → Heap → Option R) (L_grown_p5 : Option Addr → Nat → Nat → Option Addr → Nat → Nat → Int → Int → Int → Int → Bool → Int → Int → Int → Option Addr → Int → Heap → (Option Addr → Nat → Nat → Option Addr → Nat → Nat → Int → Int → Int → Int → Bool → Int → Int → Int → Option Addr → Int → Option R) → (Bool → Option R) → Option R) (k : Nat) (q518 : Option Addr) (l519 : Nat) (c520 : Nat) (q521 : Option Addr) (l522 : Nat) (c523 : Nat) (n524 : Int) (n525 : Int) (n526 : Int) (n527 : Int) (t528 : Bool) (H : Heap) (K : Value → Heap → Option R) : evF (L_grown_Ct) (L_grown_Jt k L_grown_l0 L_grown_l1 L_grown_p2 L_grown_p3 L_grown_l4 L_grown_p5) L_grown_f [.slice q518 l519 c520, .slice q521 l522 c523, .int .i64 n524, .int .i64 n525, .int .i64 n526, .int .i64 n527, .bool t528] H K = L_grown_b L_grown_l0 k q518 l519 c520 q521 l522 c523 n524 n525 n526 n527 t528 H (fun t1461 H => K (.bool t1461) H) := by kernel_rfl
theorem L_grown_cs (R : Type) (k : Nat) : ∀ args H K r, L_grown_c R k args H K = some r → ∃ v H', Tri Try.prog 28 args H v H' ∧ K v H' = some r := by
  intro args H K r h
  unfold L_grown_c L_grown_ca at h
  split at h
  · exact evF_ok (C := L_grown_C R k) (an := An) (t := L_grown_at) (fn := Try.f28) (c := (Try.f28.body.getD .skip)) (ifn := L_grown_f) (L_grown_S R k) (L_grown_J R k) Try.func28 (by kernel_rfl) (by kernel_rfl) (And.intro True.intro (And.intro (And.intro True.intro (L_grown_j0 k)) (And.intro True.intro True.intro))) rfl (Eq.trans (L_grown_e (L_grown_l0 k) (L_grown_l1 k) (L_grown_p2 k) (L_grown_p3 k) (L_grown_l4 k) (L_grown_p5 k) k _ _ _ _ _ _ _ _ _ _ _ H K) h)
  · cases h
/-! ### L_CblkGrows: function 7 -/
def L_CblkGrows_p0_b {R : Type} (cblk_Block_Mark : Option Addr → Int → Int → Heap → (Int → Heap → Option R) → Option R) (L_counts : Option Addr → Int → Int → Bool → Heap → (Option Addr → Nat → Nat → Heap → Option R) → Option R) (L_grown : Option Addr → Nat → Nat → Option Addr → Nat → Nat → Int → Int → Int → Int → Bool → Heap → (Bool → Heap → Option R) → Option R) (k : Nat) (n444 : Int) (n445 : Int) (p446 : Option Addr) (n447 : Int) (n448 : Int) (q449 : Option Addr) (l450 : Nat) (c451 : Nat) (q452 : Option Addr) (l453 : Nat) (c454 : Nat) (H : Heap) (KN : Int → Int → Option Addr → Heap → Option R) (KR : Bool → Heap → Option R) : Option R :=
cblk_Block_Mark p446 n447 n448 H fun n455 H456 =>
bif (n455 != 0) then (KR false H456)
 else (L_counts p446 n444 n445 false H456 fun q457 l458 c459 H460 =>
L_grown q449 l450 c451 q457 l458 c459 n444 n445 n447 n448 false H460 fun t461 H462 =>
bif (!t461) then (KR false H462)
 else (L_counts p446 n444 n445 true H462 fun q463 l464 c465 H466 =>
L_grown q452 l453 c454 q463 l464 c465 n444 n445 n447 n448 true H466 fun t467 H468 =>
bif (!t467) then (KR false H468)
 else (KN n444 n445 p446 H468)))
def L_CblkGrows_p0 {R : Type} (k : Nat) (n444 : Int) (n445 : Int) (p446 : Option Addr) (n447 : Int) (n448 : Int) (q449 : Option Addr) (l450 : Nat) (c451 : Nat) (q452 : Option Addr) (l453 : Nat) (c454 : Nat) (H : Heap) (KN : Int → Int → Option Addr → Heap → Option R) (KR : Bool → Heap → Option R) : Option R := L_CblkGrows_p0_b (cblk_Block_Mark k) (L_counts k) (L_grown k) k n444 n445 p446 n447 n448 q449 l450 c451 q452 l453 c454 H KN KR

def L_CblkGrows_p3_b {R : Type} (cblk_Block_Neighbors : Option Addr → Int → Int → Bool → Heap → (Int → Int → Int → Option R) → Option R) (cblk_Block_Signs : Option Addr → Int → Int → Bool → Heap → (Int → Int → Option R) → Option R) (k : Nat) (n486 : Int) (n487 : Int) (p488 : Option Addr) (n489 : Int) (n490 : Int) (H : Heap) (KN : Int → Int → Option Addr → Int → Int → Option R) (KR : Bool → Option R) : Option R :=
cblk_Block_Neighbors p488 n490 n489 true H fun n491 n492 n493 =>
cblk_Block_Signs p488 n490 n489 true H fun n494 n495 =>
bif decide (n494 < (-1)) then (KR false)
 else (bif decide (n494 > 1) then (KR false)
 else (bif decide (n495 < (-1)) then (KR false)
 else (bif decide (n495 > 1) then (KR false)
 else (bif (n491 == 0) then (bif (n494 != 0) then (KR false)
 else (bif (n492 == 0) then (bif (n495 != 0) then (KR false)
 else (KN n486 n487 p488 n489 n490))
 else (KN n486 n487 p488 n489 n490)))
 else (bif (n492 == 0) then (bif (n495 != 0) then (KR false)
 else (KN n486 n487 p488 n489 n490))
 else (KN n486 n487 p488 n489 n490))))))
def L_CblkGrows_p3 {R : Type} (k : Nat) (n486 : Int) (n487 : Int) (p488 : Option Addr) (n489 : Int) (n490 : Int) (H : Heap) (KN : Int → Int → Option Addr → Int → Int → Option R) (KR : Bool → Option R) : Option R := L_CblkGrows_p3_b (cblk_Block_Neighbors k) (cblk_Block_Signs k) k n486 n487 p488 n489 n490 H KN KR

def L_CblkGrows_l2_b {R : Type} (L_CblkGrows_p3 : Int → Int → Option Addr → Int → Int → Heap → (Int → Int → Option Addr → Int → Int → Option R) → (Bool → Option R) → Option R) (rec : Int → Int → Option Addr → Int → Int → Heap → Option R) (KE2 : Int → Int → Option Addr → Int → Option R) (KR : Bool → Option R) (k : Nat) (n481 : Int) (n482 : Int) (p483 : Option Addr) (n484 : Int) (n485 : Int) (H : Heap) : Option R :=
bif decide (n485 < n481) then (L_CblkGrows_p3 n481 n482 p483 n484 n485 H (fun n502 n503 p504 n505 n506 =>
rec n502 n503 p504 n505 (IntKind.wrap .i64 (n506 + 1)) H) (fun t507 =>
KR t507))
 else (KE2 n481 n482 p483 n484)
def L_CblkGrows_l2 {R : Type} (k : Nat) (KE2 : Int → Int → Option Addr → Int → Option R) (KR : Bool → Option R) : Nat → Int → Int → Option Addr → Int → Int → Heap → Option R
  | 0, _, _, _, _, _, _ => none
  | n + 1, n481, n482, p483, n484, n485, H => L_CblkGrows_l2_b (L_CblkGrows_p3 k) (L_CblkGrows_l2 k KE2 KR n) KE2 KR k n481 n482 p483 n484 n485 H

def L_CblkGrows_l1_b {R : Type} (L_CblkGrows_l2 : (Int → Int → Option Addr → Int → Option R) → (Bool → Option R) → Nat → Int → Int → Option Addr → Int → Int → Heap → Option R) (rec : Int → Int → Option Addr → Int → Heap → Option R) (KE0 : Unit → Option R) (KR : Bool → Option R) (k : Nat) (n477 : Int) (n478 : Int) (p479 : Option Addr) (n480 : Int) (H : Heap) : Option R :=
bif decide (n480 < n478) then (L_CblkGrows_l2 (fun n513 n514 p515 n516 =>
rec n513 n514 p515 (IntKind.wrap .i64 (n516 + 1)) H) (fun t517 =>
KR t517) k n477 n478 p479 n480 0 H)
 else (KE0 ())
def L_CblkGrows_l1 {R : Type} (k : Nat) (KE0 : Unit → Option R) (KR : Bool → Option R) : Nat → Int → Int → Option Addr → Int → Heap → Option R
  | 0, _, _, _, _, _ => none
  | n + 1, n477, n478, p479, n480, H => L_CblkGrows_l1_b (L_CblkGrows_l2 k) (L_CblkGrows_l1 k KE0 KR n) KE0 KR k n477 n478 p479 n480 H

def L_CblkGrows_b {R : Type} (L_small : Int → Int → Option Addr → Nat → Nat → (Bool → Option R) → Option R) (L_exampleHoldsq : (Bool → Option R) → Option R) (L_played : Int → Int → Option Addr → Nat → Nat → Heap → (Option Addr → Option Addr → Heap → Option R) → Option R) (cblk_Block_Significant : Option Addr → Int → Int → Heap → (Bool → Option R) → Option R) (L_counts : Option Addr → Int → Int → Bool → Heap → (Option Addr → Nat → Nat → Heap → Option R) → Option R) (L_CblkGrows_p0 : Int → Int → Option Addr → Int → Int → Option Addr → Nat → Nat → Option Addr → Nat → Nat → Heap → (Int → Int → Option Addr → Heap → Option R) → (Bool → Heap → Option R) → Option R) (L_CblkGrows_l1 : (Unit → Option R) → (Bool → Option R) → Nat → Int → Int → Option Addr → Int → Heap → Option R) (k : Nat) (n422 : Int) (n423 : Int) (q424 : Option Addr) (l425 : Nat) (c426 : Nat) (H : Heap) (K : Bool → Heap → Option R) : Option R :=
L_small n422 n423 q424 l425 c426 fun t427 =>
bif (!t427) then (L_exampleHoldsq fun t428 =>
K t428 H)
 else (L_played n422 n423 q424 l425 c426 H fun p429 p430 H431 =>
hbin .rem .i64 ((l425 : Nat) : Int) n422 fun n432 =>
hbin .rem .i64 (IntKind.wrap .i64 (((l425 : Nat) : Int) + n422)) n423 fun n433 =>
cblk_Block_Significant p429 n432 n433 H431 fun t434 =>
bif t434 then (L_exampleHoldsq fun t435 =>
K t435 H431)
 else (L_counts p429 n422 n423 false H431 fun q436 l437 c438 H439 =>
L_counts p429 n422 n423 true H439 fun q440 l441 c442 H443 =>
L_CblkGrows_p0 n422 n423 p429 n432 n433 q436 l437 c438 q440 l441 c442 H443 (fun n473 n474 p475 H476 =>
L_CblkGrows_l1 (fun (_ : Unit) =>
L_exampleHoldsq fun t519 =>
K t519 H476) (fun t520 =>
K t520 H476) k n473 n474 p475 0 H476) (fun t521 H522 =>
K t521 H522)))

def L_CblkGrows {R : Type} (k : Nat) (n422 : Int) (n423 : Int) (q424 : Option Addr) (l425 : Nat) (c426 : Nat) (H : Heap) (K : Bool → Heap → Option R) : Option R := L_CblkGrows_b L_small L_exampleHoldsq (L_played k) (cblk_Block_Significant k) (L_counts k) (L_CblkGrows_p0 k) (L_CblkGrows_l1 k) k n422 n423 q424 l425 c426 H K

def L_CblkGrows_Ct {R : Type} (L_small : Int → Int → Option Addr → Nat → Nat → (Bool → Option R) → Option R) (L_exampleHoldsq : (Bool → Option R) → Option R) (L_played : Int → Int → Option Addr → Nat → Nat → Heap → (Option Addr → Option Addr → Heap → Option R) → Option R) (cblk_Block_Significant : Option Addr → Int → Int → Heap → (Bool → Option R) → Option R) (L_counts : Option Addr → Int → Int → Bool → Heap → (Option Addr → Nat → Nat → Heap → Option R) → Option R) (cblk_Block_Mark : Option Addr → Int → Int → Heap → (Int → Heap → Option R) → Option R) (L_grown : Option Addr → Nat → Nat → Option Addr → Nat → Nat → Int → Int → Int → Int → Bool → Heap → (Bool → Heap → Option R) → Option R) (cblk_Block_Neighbors : Option Addr → Int → Int → Bool → Heap → (Int → Int → Int → Option R) → Option R) (cblk_Block_Signs : Option Addr → Int → Int → Bool → Heap → (Int → Int → Option R) → Option R) : Tab R := tcons 22 (L_small_ca L_small) <| tcons 14 (L_exampleHoldsq_ca L_exampleHoldsq) <| tcons 23 (L_played_ca L_played) <| tcons 25 (cblk_Block_Significant_ca cblk_Block_Significant) <| tcons 26 (L_counts_ca L_counts) <| tcons 27 (cblk_Block_Mark_ca cblk_Block_Mark) <| tcons 28 (L_grown_ca L_grown) <| tcons 29 (cblk_Block_Neighbors_ca cblk_Block_Neighbors) <| tcons 30 (cblk_Block_Signs_ca cblk_Block_Signs) <| fun _ _ _ _ => none
def L_CblkGrows_C (R : Type) (k : Nat) : Tab R := L_CblkGrows_Ct L_small L_exampleHoldsq (L_played k) (cblk_Block_Significant k) (L_counts k) (cblk_Block_Mark k) (L_grown k) (cblk_Block_Neighbors k) (cblk_Block_Signs k)
theorem L_CblkGrows_S (R : Type) (k : Nat) : CSound Try.prog (L_CblkGrows_C R k) := csound_cons (L_small_cs R k) <| csound_cons (L_exampleHoldsq_cs R k) <| csound_cons (L_played_cs R k) <| csound_cons (cblk_Block_Significant_cs R k) <| csound_cons (L_counts_cs R k) <| csound_cons (cblk_Block_Mark_cs R k) <| csound_cons (L_grown_cs R k) <| csound_cons (cblk_Block_Neighbors_cs R k) <| csound_cons (cblk_Block_Signs_cs R k) <| csound_nil
def L_CblkGrows_aa0 {R : Type} (f : Int → Int → Option Addr → Int → Int → Option Addr → Nat → Nat → Option Addr → Nat → Nat → Heap → (Int → Int → Option Addr → Heap → Option R) → (Bool → Heap → Option R) → Option R) (n : Nat) (vals : List Value) (H : Heap) (K : Xit → Env → Heap → Option R) : Option R :=
  match vals with
  | [.int .i64 n444, .int .i64 n445, .pointer p446, .int .i64 n447, .int .i64 n448, .slice q449 l450 c451, .slice q452 l453 c454] => f n444 n445 p446 n447 n448 q449 l450 c451 q452 l453 c454 H (fun n1462 n1463 p1464 H => K .normal [(0, .int .i64 n1462), (1, .int .i64 n1463), (7, .pointer p1464)] H) (fun t1465 H => K .ret [(6, .bool t1465)] H)
  | _ => none
def L_CblkGrows_a0 (R : Type) (k n : Nat) (vals : List Value) (H : Heap) (K : Xit → Env → Heap → Option R) : Option R := L_CblkGrows_aa0 (L_CblkGrows_p0 k) n vals H K
def L_CblkGrows_aa1 {R : Type} (f : (Unit → Option R) → (Bool → Option R) → Nat → Int → Int → Option Addr → Int → Heap → Option R) (n : Nat) (vals : List Value) (H : Heap) (K : Xit → Env → Heap → Option R) : Option R :=
  match vals with
  | [.int .i64 n477, .int .i64 n478, .pointer p479, .int .i64 n480] => f (fun _ => K (.exit 0) [] H) (fun t1466 => K .ret [(6, .bool t1466)] H) n n477 n478 p479 n480 H
  | _ => none
def L_CblkGrows_a1 (R : Type) (k n : Nat) (vals : List Value) (H : Heap) (K : Xit → Env → Heap → Option R) : Option R := L_CblkGrows_aa1 (L_CblkGrows_l1 k) n vals H K
def L_CblkGrows_aa2 {R : Type} (f : (Int → Int → Option Addr → Int → Option R) → (Bool → Option R) → Nat → Int → Int → Option Addr → Int → Int → Heap → Option R) (n : Nat) (vals : List Value) (H : Heap) (K : Xit → Env → Heap → Option R) : Option R :=
  match vals with
  | [.int .i64 n481, .int .i64 n482, .pointer p483, .int .i64 n484, .int .i64 n485] => f (fun n1467 n1468 p1469 n1470 => K (.exit 2) [(0, .int .i64 n1467), (1, .int .i64 n1468), (7, .pointer p1469), (13, .int .i64 n1470)] H) (fun t1471 => K .ret [(6, .bool t1471)] H) n n481 n482 p483 n484 n485 H
  | _ => none
def L_CblkGrows_a2 (R : Type) (k n : Nat) (vals : List Value) (H : Heap) (K : Xit → Env → Heap → Option R) : Option R := L_CblkGrows_aa2 (L_CblkGrows_l2 k) n vals H K
def L_CblkGrows_aa3 {R : Type} (f : Int → Int → Option Addr → Int → Int → Heap → (Int → Int → Option Addr → Int → Int → Option R) → (Bool → Option R) → Option R) (n : Nat) (vals : List Value) (H : Heap) (K : Xit → Env → Heap → Option R) : Option R :=
  match vals with
  | [.int .i64 n486, .int .i64 n487, .pointer p488, .int .i64 n489, .int .i64 n490] => f n486 n487 p488 n489 n490 H (fun n1472 n1473 p1474 n1475 n1476 => K .normal [(0, .int .i64 n1472), (1, .int .i64 n1473), (7, .pointer p1474), (13, .int .i64 n1475), (14, .int .i64 n1476)] H) (fun t1477 => K .ret [(6, .bool t1477)] H)
  | _ => none
def L_CblkGrows_a3 (R : Type) (k n : Nat) (vals : List Value) (H : Heap) (K : Xit → Env → Heap → Option R) : Option R := L_CblkGrows_aa3 (L_CblkGrows_p3 k) n vals H K
def L_CblkGrows_Jt {R : Type} (k : Nat) (L_CblkGrows_p0 : Int → Int → Option Addr → Int → Int → Option Addr → Nat → Nat → Option Addr → Nat → Nat → Heap → (Int → Int → Option Addr → Heap → Option R) → (Bool → Heap → Option R) → Option R) (L_CblkGrows_l1 : (Unit → Option R) → (Bool → Option R) → Nat → Int → Int → Option Addr → Int → Heap → Option R) (L_CblkGrows_l2 : (Int → Int → Option Addr → Int → Option R) → (Bool → Option R) → Nat → Int → Int → Option Addr → Int → Int → Heap → Option R) (L_CblkGrows_p3 : Int → Int → Option Addr → Int → Int → Heap → (Int → Int → Option Addr → Int → Int → Option R) → (Bool → Option R) → Option R) : JTab R := tcons 0 (L_CblkGrows_aa0 L_CblkGrows_p0 k) <| tcons 1 (L_CblkGrows_aa1 L_CblkGrows_l1 k) <| tcons 2 (L_CblkGrows_aa2 L_CblkGrows_l2 k) <| tcons 3 (L_CblkGrows_aa3 L_CblkGrows_p3 k) <| fun _ _ _ _ => none
def L_CblkGrows_J (R : Type) (k : Nat) : JTab R := L_CblkGrows_Jt k (L_CblkGrows_p0 k) (L_CblkGrows_l1 k) (L_CblkGrows_l2 k) (L_CblkGrows_p3 k)
def L_CblkGrows_at : AT := (.seq (.reg [0, 1, 2] []) (.seq (.seq (.reg [0, 1, 2, 24] []) (.cond (.seq (.reg [6] []) .leaf) .leaf)) (.seq (.reg [0, 1, 2, 7] []) (.seq (.reg [0, 1, 7, 9, 10] [[], [0], [], [0, 1, 2], [], [4], [], [4, 5, 6], [], [4, 5, 6, 7, 8], [0, 1, 2, 3], [0, 1, 2, 3, 4, 5, 6, 7, 8, 9, 10]]) (.seq (.seq (.reg [0, 1, 7, 9, 10, 46] []) (.cond (.seq (.reg [6] []) .leaf) .leaf)) (.seq (.reg [0, 1, 7, 9, 10, 11, 12] []) (.seq (.opq 0 [0, 1, 7, 9, 10, 11, 12] ⟨[0, 1, 7], [], [6]⟩ (.seq (.reg [0, 1, 7, 86] []) (.cond (.seq (.reg [6] []) .leaf) .leaf))) (.seq (.seq (.reg [0, 1, 7, 13] []) (.node (.opq 1 [0, 1, 7, 13] ⟨[], [(0, [])], [6]⟩ (.node (.seq (.seq (.reg [0, 1, 7, 13, 89] []) (.cond .leaf .leaf)) (.seq (.node (.seq (.reg [0, 1, 7, 13, 14] []) (.node (.opq 2 [0, 1, 7, 13, 14] ⟨[], [(2, [0, 1, 7, 13])], [6]⟩ (.node (.seq (.seq (.reg [0, 1, 7, 13, 14, 94] []) (.cond .leaf .leaf)) (.seq (.opq 3 [0, 1, 7, 13, 14] ⟨[0, 1, 7, 13, 14], [], [6]⟩ (.node (.seq (.reg [0, 1, 7, 13, 14, 15, 16] []) (.seq (.reg [0, 1, 7, 13, 14, 15, 16, 18, 19] []) (.seq (.reg [0, 1, 7, 13, 14, 141] []) (.cond (.seq (.reg [6] []) .leaf) .leaf)))))) (.reg [0, 1, 7, 13, 14] [])))))))) (.reg [0, 1, 7, 13] []))))))) (.seq (.reg [6] []) .leaf)))))))))
def L_CblkGrows_i3 : IC := (.block 3 (.seq (.reg [⟨some 98, .mov (.t 7), none⟩,
 ⟨some 99, .mov (.t 14), none⟩,
 ⟨some 100, .mov (.t 13), none⟩,
 ⟨some 101, .call 29 [(.t 98), (.t 99), (.t 100), (.c (Go.Value.bool true))] (.tup [(.sc (.int .i64)), (.sc (.int .i64)), (.sc (.int .i64))]), none⟩,
 ⟨some 97, .mov (.t 101), none⟩,
 ⟨some 102, .ext 0 (.t 97), none⟩,
 ⟨some 103, .ext 1 (.t 97), none⟩,
 ⟨some 104, .ext 2 (.t 97), none⟩,
 ⟨some 15, .mov (.t 102), none⟩,
 ⟨some 16, .mov (.t 103), none⟩,
 ⟨some 17, .mov (.t 104), none⟩] [0, 1, 7, 13, 14, 15, 16]) (.seq (.reg [⟨some 106, .mov (.t 7), none⟩,
 ⟨some 107, .mov (.t 14), none⟩,
 ⟨some 108, .mov (.t 13), none⟩,
 ⟨some 109, .call 30 [(.t 106), (.t 107), (.t 108), (.c (Go.Value.bool true))] (.tup [(.sc (.int .i64)), (.sc (.int .i64))]), none⟩,
 ⟨some 105, .mov (.t 109), none⟩,
 ⟨some 110, .ext 0 (.t 105), none⟩,
 ⟨some 111, .ext 1 (.t 105), none⟩,
 ⟨some 18, .mov (.t 110), none⟩,
 ⟨some 19, .mov (.t 111), none⟩] [0, 1, 7, 13, 14, 15, 16, 18, 19]) (.seq (.reg [⟨some 112, .mov (.t 18), none⟩,
 ⟨some 113, .cmp .lss (.t 112) (.c (Go.Value.int Go.IntKind.i64 (-1))), none⟩,
 ⟨some 114, .mov (.t 113), none⟩,
 ⟨some 115, .mov (.t 18), some (114, false)⟩,
 ⟨some 116, .cmp .gtr (.t 115) (.c (Go.Value.int Go.IntKind.i64 1)), some (114, false)⟩,
 ⟨some 117, .pick (.t 114) (.c (Go.Value.bool true)) (.t 116), none⟩,
 ⟨some 118, .mov (.t 117), none⟩,
 ⟨some 119, .mov (.t 19), some (118, false)⟩,
 ⟨some 120, .cmp .lss (.t 119) (.c (Go.Value.int Go.IntKind.i64 (-1))), some (118, false)⟩,
 ⟨some 121, .pick (.t 118) (.c (Go.Value.bool true)) (.t 120), none⟩,
 ⟨some 122, .mov (.t 121), none⟩,
 ⟨some 123, .mov (.t 19), some (122, false)⟩,
 ⟨some 124, .cmp .gtr (.t 123) (.c (Go.Value.int Go.IntKind.i64 1)), some (122, false)⟩,
 ⟨some 125, .pick (.t 122) (.c (Go.Value.bool true)) (.t 124), none⟩,
 ⟨some 126, .mov (.t 125), none⟩,
 ⟨some 127, .mov (.t 15), some (126, false)⟩,
 ⟨some 128, .cmp .eql (.t 127) (.c (Go.Value.int Go.IntKind.i64 0)), some (126, false)⟩,
 ⟨some 129, .mov (.t 128), some (126, false)⟩,
 ⟨some 130, .mov (.t 18), some (129, true)⟩,
 ⟨some 131, .cmp .neq (.t 130) (.c (Go.Value.int Go.IntKind.i64 0)), some (129, true)⟩,
 ⟨some 132, .pick (.t 129) (.t 131) (.c (Go.Value.bool false)), some (126, false)⟩,
 ⟨some 133, .pick (.t 126) (.c (Go.Value.bool true)) (.t 132), none⟩,
 ⟨some 134, .mov (.t 133), none⟩,
 ⟨some 135, .mov (.t 16), some (134, false)⟩,
 ⟨some 136, .cmp .eql (.t 135) (.c (Go.Value.int Go.IntKind.i64 0)), some (134, false)⟩,
 ⟨some 137, .mov (.t 136), some (134, false)⟩,
 ⟨some 138, .mov (.t 19), some (137, true)⟩,
 ⟨some 139, .cmp .neq (.t 138) (.c (Go.Value.int Go.IntKind.i64 0)), some (137, true)⟩,
 ⟨some 140, .pick (.t 137) (.t 139) (.c (Go.Value.bool false)), some (134, false)⟩,
 ⟨some 141, .pick (.t 134) (.c (Go.Value.bool true)) (.t 140), none⟩] [0, 1, 7, 13, 14, 141]) (.cond (.t 141) (.seq (.reg [⟨some 6, .mov (.c (Go.Value.bool false)), none⟩] [6]) .ret) .skip)))))
def L_CblkGrows_i2 : IC := (.seq (.seq (.reg [⟨some 92, .mov (.t 14), none⟩,
 ⟨some 93, .mov (.t 0), none⟩,
 ⟨some 94, .cmp .lss (.t 92) (.t 93), none⟩] [0, 1, 7, 13, 14, 94]) (.cond (.t 94) .skip (.exit 2))) (.seq (.opq 3 [0, 1, 7, 13, 14] L_CblkGrows_i3) (.reg [⟨some 95, .mov (.t 14), none⟩,
 ⟨some 96, .bin .add .i64 (.t 95) (.c (Go.Value.int Go.IntKind.i64 1)), none⟩,
 ⟨some 14, .mov (.t 96), none⟩] [0, 1, 7, 13, 14])))
def L_CblkGrows_i1 : IC := (.seq (.seq (.reg [⟨some 87, .mov (.t 13), none⟩,
 ⟨some 88, .mov (.t 1), none⟩,
 ⟨some 89, .cmp .lss (.t 87) (.t 88), none⟩] [0, 1, 7, 13, 89]) (.cond (.t 89) .skip (.exit 0))) (.seq (.block 1 (.seq (.reg [⟨some 14, .mov (.c (Go.Value.int Go.IntKind.i64 0)), none⟩] [0, 1, 7, 13, 14]) (.block 2 (.opq 2 [0, 1, 7, 13, 14] (.loop L_CblkGrows_i2))))) (.reg [⟨some 90, .mov (.t 13), none⟩,
 ⟨some 91, .bin .add .i64 (.t 90) (.c (Go.Value.int Go.IntKind.i64 1)), none⟩,
 ⟨some 13, .mov (.t 91), none⟩] [0, 1, 7, 13])))
def L_CblkGrows_i0 : IC := (.seq (.reg [⟨some 56, .mov (.t 7), none⟩,
 ⟨some 57, .mov (.t 9), none⟩,
 ⟨some 58, .mov (.t 10), none⟩,
 ⟨some 59, .call 27 [(.t 56), (.t 57), (.t 58)] (.one (.sc (.int .i64))), none⟩,
 ⟨some 60, .cmp .neq (.t 59) (.c (Go.Value.int Go.IntKind.i64 0)), none⟩,
 ⟨some 61, .mov (.t 60), none⟩,
 ⟨some 62, .mov (.t 11), some (61, false)⟩,
 ⟨some 63, .mov (.t 7), some (61, false)⟩,
 ⟨some 64, .mov (.t 0), some (61, false)⟩,
 ⟨some 65, .mov (.t 1), some (61, false)⟩,
 ⟨some 66, .call 26 [(.t 63), (.t 64), (.t 65), (.c (Go.Value.bool false))] (.one (.sc .slc)), some (61, false)⟩,
 ⟨some 67, .mov (.t 0), some (61, false)⟩,
 ⟨some 68, .mov (.t 1), some (61, false)⟩,
 ⟨some 69, .mov (.t 9), some (61, false)⟩,
 ⟨some 70, .mov (.t 10), some (61, false)⟩,
 ⟨some 71, .call 28 [(.t 62), (.t 66), (.t 67), (.t 68), (.t 69), (.t 70), (.c (Go.Value.bool false))] (.one (.sc .bool)), some (61, false)⟩,
 ⟨some 72, .lnot (.t 71), some (61, false)⟩,
 ⟨some 73, .pick (.t 61) (.c (Go.Value.bool true)) (.t 72), none⟩,
 ⟨some 74, .mov (.t 73), none⟩,
 ⟨some 75, .mov (.t 12), some (74, false)⟩,
 ⟨some 76, .mov (.t 7), some (74, false)⟩,
 ⟨some 77, .mov (.t 0), some (74, false)⟩,
 ⟨some 78, .mov (.t 1), some (74, false)⟩,
 ⟨some 79, .call 26 [(.t 76), (.t 77), (.t 78), (.c (Go.Value.bool true))] (.one (.sc .slc)), some (74, false)⟩,
 ⟨some 80, .mov (.t 0), some (74, false)⟩,
 ⟨some 81, .mov (.t 1), some (74, false)⟩,
 ⟨some 82, .mov (.t 9), some (74, false)⟩,
 ⟨some 83, .mov (.t 10), some (74, false)⟩,
 ⟨some 84, .call 28 [(.t 75), (.t 79), (.t 80), (.t 81), (.t 82), (.t 83), (.c (Go.Value.bool true))] (.one (.sc .bool)), some (74, false)⟩,
 ⟨some 85, .lnot (.t 84), some (74, false)⟩,
 ⟨some 86, .pick (.t 74) (.c (Go.Value.bool true)) (.t 85), none⟩] [0, 1, 7, 86]) (.cond (.t 86) (.seq (.reg [⟨some 6, .mov (.c (Go.Value.bool false)), none⟩] [6]) .ret) .skip))
def L_CblkGrows_f : IFn := ⟨143, [.t 6], (.seq (.reg [⟨some 6, .mov (.c (Go.Value.bool false)), none⟩] [0, 1, 2]) (.seq (.seq (.reg [⟨some 20, .mov (.t 0), none⟩,
 ⟨some 21, .mov (.t 1), none⟩,
 ⟨some 22, .mov (.t 2), none⟩,
 ⟨some 23, .call 22 [(.t 20), (.t 21), (.t 22)] (.one (.sc .bool)), none⟩,
 ⟨some 24, .lnot (.t 23), none⟩] [0, 1, 2, 24]) (.cond (.t 24) (.seq (.reg [⟨some 25, .call 14 [] (.one (.sc .bool)), none⟩,
 ⟨some 6, .mov (.t 25), none⟩] [6]) .ret) .skip)) (.seq (.reg [⟨some 27, .mov (.t 0), none⟩,
 ⟨some 28, .mov (.t 1), none⟩,
 ⟨some 29, .mov (.t 2), none⟩,
 ⟨some 30, .call 23 [(.t 27), (.t 28), (.t 29)] (.tup [(.sc .ptr), (.sc .ptr)]), none⟩,
 ⟨some 26, .mov (.t 30), none⟩,
 ⟨some 31, .ext 0 (.t 26), none⟩,
 ⟨some 32, .ext 1 (.t 26), none⟩,
 ⟨some 7, .mov (.t 31), none⟩,
 ⟨some 8, .mov (.t 32), none⟩] [0, 1, 2, 7]) (.seq (.reg [⟨some 33, .mov (.t 2), none⟩,
 ⟨some 34, .len false (.t 33), none⟩,
 ⟨some 35, .mov (.t 0), none⟩,
 ⟨some 36, .bin .rem .i64 (.t 34) (.t 35), none⟩,
 ⟨some 37, .mov (.t 2), none⟩,
 ⟨some 38, .len false (.t 37), none⟩,
 ⟨some 39, .mov (.t 0), none⟩,
 ⟨some 40, .bin .add .i64 (.t 38) (.t 39), none⟩,
 ⟨some 41, .mov (.t 1), none⟩,
 ⟨some 42, .bin .rem .i64 (.t 40) (.t 41), none⟩,
 ⟨some 9, .mov (.t 36), none⟩,
 ⟨some 10, .mov (.t 42), none⟩] [0, 1, 7, 9, 10]) (.seq (.seq (.reg [⟨some 43, .mov (.t 7), none⟩,
 ⟨some 44, .mov (.t 9), none⟩,
 ⟨some 45, .mov (.t 10), none⟩,
 ⟨some 46, .call 25 [(.t 43), (.t 44), (.t 45)] (.one (.sc .bool)), none⟩] [0, 1, 7, 9, 10, 46]) (.cond (.t 46) (.seq (.reg [⟨some 47, .call 14 [] (.one (.sc .bool)), none⟩,
 ⟨some 6, .mov (.t 47), none⟩] [6]) .ret) .skip)) (.seq (.reg [⟨some 48, .mov (.t 7), none⟩,
 ⟨some 49, .mov (.t 0), none⟩,
 ⟨some 50, .mov (.t 1), none⟩,
 ⟨some 51, .call 26 [(.t 48), (.t 49), (.t 50), (.c (Go.Value.bool false))] (.one (.sc .slc)), none⟩,
 ⟨some 52, .mov (.t 7), none⟩,
 ⟨some 53, .mov (.t 0), none⟩,
 ⟨some 54, .mov (.t 1), none⟩,
 ⟨some 55, .call 26 [(.t 52), (.t 53), (.t 54), (.c (Go.Value.bool true))] (.one (.sc .slc)), none⟩,
 ⟨some 11, .mov (.t 51), none⟩,
 ⟨some 12, .mov (.t 55), none⟩] [0, 1, 7, 9, 10, 11, 12]) (.seq (.opq 0 [0, 1, 7, 9, 10, 11, 12] L_CblkGrows_i0) (.seq (.seq (.reg [⟨some 13, .mov (.c (Go.Value.int Go.IntKind.i64 0)), none⟩] [0, 1, 7, 13]) (.block 0 (.opq 1 [0, 1, 7, 13] (.loop L_CblkGrows_i1)))) (.seq (.reg [⟨some 142, .call 14 [] (.one (.sc .bool)), none⟩,
 ⟨some 6, .mov (.t 142), none⟩] [6]) .ret)))))))))⟩
theorem L_CblkGrows_e3 {R : Type} (L_small : Int → Int → Option Addr → Nat → Nat → (Bool → Option R) → Option R) (L_exampleHoldsq : (Bool → Option R) → Option R) (L_played : Int → Int → Option Addr → Nat → Nat → Heap → (Option Addr → Option Addr → Heap → Option R) → Option R) (cblk_Block_Significant : Option Addr → Int → Int → Heap → (Bool → Option R) → Option R) (L_counts : Option Addr → Int → Int → Bool → Heap → (Option Addr → Nat → Nat → Heap → Option R) → Option R) (cblk_Block_Mark : Option Addr → Int → Int → Heap → (Int → Heap → Option R) → Option R) (L_grown : Option Addr → Nat → Nat → Option Addr → Nat → Nat → Int → Int → Int → Int → Bool → Heap → (Bool → Heap → Option R) → Option R) (cblk_Block_Neighbors : Option Addr → Int → Int → Bool → Heap → (Int → Int → Int → Option R) → Option R) (cblk_Block_Signs : Option Addr → Int → Int → Bool → Heap → (Int → Int → Option R) → Option R) (L_CblkGrows_p0 : Int → Int → Option Addr → Int → Int → Option Addr → Nat → Nat → Option Addr → Nat → Nat → Heap → (Int → Int → Option Addr → Heap → Option R) → (Bool → Heap → Option R) → Option R) (L_CblkGrows_l1 : (Unit → Option R) → (Bool → Option R) → Nat → Int → Int → Option Addr → Int → Heap → Option R) (L_CblkGrows_l2 : (Int → Int → Option Addr → Int → Option R) → (Bool → Option R) → Nat → Int → Int → Option Addr → Int → Int → Heap → Option R) (L_CblkGrows_p3 : Int → Int → Option Addr → Int → Int → Heap → (Int → Int → Option Addr → Int → Int → Option R) → (Bool → Option R) → Option R) (k : Nat) (n486 : Int) (n487 : Int) (p488 : Option Addr) (n489 : Int) (n490 : Int) (H : Heap) (K : Xit → Env → Heap → Option R) : evJ (L_CblkGrows_Ct L_small L_exampleHoldsq L_played cblk_Block_Significant L_counts cblk_Block_Mark L_grown cblk_Block_Neighbors cblk_Block_Signs) (L_CblkGrows_Jt k L_CblkGrows_p0 L_CblkGrows_l1 L_CblkGrows_l2 L_CblkGrows_p3) L_CblkGrows_i3 (List.zip [0, 1, 7, 13, 14] [.int .i64 n486, .int .i64 n487, .pointer p488, .int .i64 n489, .int .i64 n490]) H (fun x e' H' => K x (clean e' ((⟨[0, 1, 7, 13, 14], [], [6]⟩ : Out).of x)) H') = L_CblkGrows_p3_b cblk_Block_Neighbors cblk_Block_Signs k n486 n487 p488 n489 n490 H (fun n1472 n1473 p1474 n1475 n1476 => K .normal [(0, .int .i64 n1472), (1, .int .i64 n1473), (7, .pointer p1474), (13, .int .i64 n1475), (14, .int .i64 n1476)] H) (fun t1477 => K .ret [(6, .bool t1477)] H) := by kernel_rfl
theorem L_CblkGrows_j3 {R : Type} (k : Nat) : JS Try.prog 143 (L_CblkGrows_a3 R k k) [0, 1, 7, 13, 14] ⟨[0, 1, 7, 13, 14], [], [6]⟩ (sel [1, 1, 1, 1, 1, 1, 1, 0, 1, 0, 0, 1, 0, 0, 1, 0, 0, 1, 0] (Try.f7.body.getD .skip)) :=
  piece_ok (nt := 143) (c := (sel [1, 1, 1, 1, 1, 1, 1, 0, 1, 0, 0, 1, 0, 0, 1, 0, 0, 1, 0] (Try.f7.body.getD .skip))) (C := L_CblkGrows_C R k) (an := An) (t := (.node (.seq (.reg [0, 1, 7, 13, 14, 15, 16] []) (.seq (.reg [0, 1, 7, 13, 14, 15, 16, 18, 19] []) (.seq (.reg [0, 1, 7, 13, 14, 141] []) (.cond (.seq (.reg [6] []) .leaf) .leaf)))))) (ic := L_CblkGrows_i3) (L_CblkGrows_S R k) (L_CblkGrows_J R k) (by kernel_rfl) (And.intro True.intro (And.intro True.intro (And.intro True.intro (And.intro (And.intro True.intro True.intro) True.intro)))) (L_CblkGrows_a3 R k k)
    (fun vals H K r h => by
      unfold L_CblkGrows_a3 L_CblkGrows_aa3 at h
      split at h <;> first | (cases h; done) | exact Eq.trans (L_CblkGrows_e3 L_small L_exampleHoldsq (L_played k) (cblk_Block_Significant k) (L_counts k) (cblk_Block_Mark k) (L_grown k) (cblk_Block_Neighbors k) (cblk_Block_Signs k) (L_CblkGrows_p0 k) (L_CblkGrows_l1 k) (L_CblkGrows_l2 k) (L_CblkGrows_p3 k) k _ _ _ _ _ H K) h)
theorem L_CblkGrows_e2 {R : Type} (L_small : Int → Int → Option Addr → Nat → Nat → (Bool → Option R) → Option R) (L_exampleHoldsq : (Bool → Option R) → Option R) (L_played : Int → Int → Option Addr → Nat → Nat → Heap → (Option Addr → Option Addr → Heap → Option R) → Option R) (cblk_Block_Significant : Option Addr → Int → Int → Heap → (Bool → Option R) → Option R) (L_counts : Option Addr → Int → Int → Bool → Heap → (Option Addr → Nat → Nat → Heap → Option R) → Option R) (cblk_Block_Mark : Option Addr → Int → Int → Heap → (Int → Heap → Option R) → Option R) (L_grown : Option Addr → Nat → Nat → Option Addr → Nat → Nat → Int → Int → Int → Int → Bool → Heap → (Bool → Heap → Option R) → Option R) (cblk_Block_Neighbors : Option Addr → Int → Int → Bool → Heap → (Int → Int → Int → Option R) → Option R) (cblk_Block_Signs : Option Addr → Int → Int → Bool → Heap → (Int → Int → Option R) → Option R) (L_CblkGrows_p0 : Int → Int → Option Addr → Int → Int → Option Addr → Nat → Nat → Option Addr → Nat → Nat → Heap → (Int → Int → Option Addr → Heap → Option R) → (Bool → Heap → Option R) → Option R) (L_CblkGrows_l1 : (Unit → Option R) → (Bool → Option R) → Nat → Int → Int → Option Addr → Int → Heap → Option R) (L_CblkGrows_l2 : (Int → Int → Option Addr → Int → Option R) → (Bool → Option R) → Nat → Int → Int → Option Addr → Int → Int → Heap → Option R) (L_CblkGrows_p3 : Int → Int → Option Addr → Int → Int → Heap → (Int → Int → Option Addr → Int → Int → Option R) → (Bool → Option R) → Option R) (k n : Nat) (n481 : Int) (n482 : Int) (p483 : Option Addr) (n484 : Int) (n485 : Int) (H : Heap) (K : Xit → Env → Heap → Option R) : evJ (L_CblkGrows_Ct L_small L_exampleHoldsq L_played cblk_Block_Significant L_counts cblk_Block_Mark L_grown cblk_Block_Neighbors cblk_Block_Signs) (L_CblkGrows_Jt k L_CblkGrows_p0 L_CblkGrows_l1 L_CblkGrows_l2 L_CblkGrows_p3) L_CblkGrows_i2 (List.zip [0, 1, 7, 13, 14] [.int .i64 n481, .int .i64 n482, .pointer p483, .int .i64 n484, .int .i64 n485]) H (fun x e' H' => match x with | .normal => L_CblkGrows_aa2 L_CblkGrows_l2 n ((clean e' [0, 1, 7, 13, 14]).map (·.2)) H' K | x => K x (clean e' ((⟨[], [(2, [0, 1, 7, 13])], [6]⟩ : Out).of x)) H') = L_CblkGrows_l2_b L_CblkGrows_p3 (L_CblkGrows_l2 (fun n1467 n1468 p1469 n1470 => K (.exit 2) [(0, .int .i64 n1467), (1, .int .i64 n1468), (7, .pointer p1469), (13, .int .i64 n1470)] H) (fun t1471 => K .ret [(6, .bool t1471)] H) n) (fun n1467 n1468 p1469 n1470 => K (.exit 2) [(0, .int .i64 n1467), (1, .int .i64 n1468), (7, .pointer p1469), (13, .int .i64 n1470)] H) (fun t1471 => K .ret [(6, .bool t1471)] H) k n481 n482 p483 n484 n485 H := by kernel_rfl
theorem L_CblkGrows_j2 {R : Type} (k : Nat) : JS Try.prog 143 (L_CblkGrows_a2 R k k) [0, 1, 7, 13, 14] ⟨[], [(2, [0, 1, 7, 13])], [6]⟩ (.loop (sel [1, 1, 1, 1, 1, 1, 1, 0, 1, 0, 0, 1, 0, 0, 1, 0, 0] (Try.f7.body.getD .skip))) :=
  loop_ok (nt := 143) (c := (sel [1, 1, 1, 1, 1, 1, 1, 0, 1, 0, 0, 1, 0, 0, 1, 0, 0] (Try.f7.body.getD .skip))) (C := L_CblkGrows_C R k) (an := An) (t := (.seq (.seq (.reg [0, 1, 7, 13, 14, 94] []) (.cond .leaf .leaf)) (.seq (.opq 3 [0, 1, 7, 13, 14] ⟨[0, 1, 7, 13, 14], [], [6]⟩ (.node (.seq (.reg [0, 1, 7, 13, 14, 15, 16] []) (.seq (.reg [0, 1, 7, 13, 14, 15, 16, 18, 19] []) (.seq (.reg [0, 1, 7, 13, 14, 141] []) (.cond (.seq (.reg [6] []) .leaf) .leaf)))))) (.reg [0, 1, 7, 13, 14] [])))) (ic := L_CblkGrows_i2) (L_CblkGrows_S R k) (L_CblkGrows_J R k) (by kernel_rfl) (And.intro (And.intro True.intro (And.intro True.intro True.intro)) (And.intro (L_CblkGrows_j3 k) True.intro)) (L_CblkGrows_a2 R k) (fun vals H K => by unfold L_CblkGrows_a2 L_CblkGrows_aa2; split <;> rfl)
    (fun n vals H K r h => by
      unfold L_CblkGrows_a2 L_CblkGrows_aa2 at h
      split at h <;> first | (cases h; done) | exact Eq.trans (L_CblkGrows_e2 L_small L_exampleHoldsq (L_played k) (cblk_Block_Significant k) (L_counts k) (cblk_Block_Mark k) (L_grown k) (cblk_Block_Neighbors k) (cblk_Block_Signs k) (L_CblkGrows_p0 k) (L_CblkGrows_l1 k) (L_CblkGrows_l2 k) (L_CblkGrows_p3 k) k n _ _ _ _ _ H K) h) k
theorem L_CblkGrows_e1 {R : Type} (L_small : Int → Int → Option Addr → Nat → Nat → (Bool → Option R) → Option R) (L_exampleHoldsq : (Bool → Option R) → Option R) (L_played : Int → Int → Option Addr → Nat → Nat → Heap → (Option Addr → Option Addr → Heap → Option R) → Option R) (cblk_Block_Significant : Option Addr → Int → Int → Heap → (Bool → Option R) → Option R) (L_counts : Option Addr → Int → Int → Bool → Heap → (Option Addr → Nat → Nat → Heap → Option R) → Option R) (cblk_Block_Mark : Option Addr → Int → Int → Heap → (Int → Heap → Option R) → Option R) (L_grown : Option Addr → Nat → Nat → Option Addr → Nat → Nat → Int → Int → Int → Int → Bool → Heap → (Bool → Heap → Option R) → Option R) (cblk_Block_Neighbors : Option Addr → Int → Int → Bool → Heap → (Int → Int → Int → Option R) → Option R) (cblk_Block_Signs : Option Addr → Int → Int → Bool → Heap → (Int → Int → Option R) → Option R) (L_CblkGrows_p0 : Int → Int → Option Addr → Int → Int → Option Addr → Nat → Nat → Option Addr → Nat → Nat → Heap → (Int → Int → Option Addr → Heap → Option R) → (Bool → Heap → Option R) → Option R) (L_CblkGrows_l1 : (Unit → Option R) → (Bool → Option R) → Nat → Int → Int → Option Addr → Int → Heap → Option R) (L_CblkGrows_l2 : (Int → Int → Option Addr → Int → Option R) → (Bool → Option R) → Nat → Int → Int → Option Addr → Int → Int → Heap → Option R) (L_CblkGrows_p3 : Int → Int → Option Addr → Int → Int → Heap → (Int → Int → Option Addr → Int → Int → Option R) → (Bool → Option R) → Option R) (k n : Nat) (n477 : Int) (n478 : Int) (p479 : Option Addr) (n480 : Int) (H : Heap) (K : Xit → Env → Heap → Option R) : evJ (L_CblkGrows_Ct L_small L_exampleHoldsq L_played cblk_Block_Significant L_counts cblk_Block_Mark L_grown cblk_Block_Neighbors cblk_Block_Signs) (L_CblkGrows_Jt k L_CblkGrows_p0 L_CblkGrows_l1 L_CblkGrows_l2 L_CblkGrows_p3) L_CblkGrows_i1 (List.zip [0, 1, 7, 13] [.int .i64 n477, .int .i64 n478, .pointer p479, .int .i64 n480]) H (fun x e' H' => match x with | .normal => L_CblkGrows_aa1 L_CblkGrows_l1 n ((clean e' [0, 1, 7, 13]).map (·.2)) H' K | x => K x (clean e' ((⟨[], [(0, [])], [6]⟩ : Out).of x)) H') = L_CblkGrows_l1_b L_CblkGrows_l2 (L_CblkGrows_l1 (fun _ => K (.exit 0) [] H) (fun t1466 => K .ret [(6, .bool t1466)] H) n) (fun _ => K (.exit 0) [] H) (fun t1466 => K .ret [(6, .bool t1466)] H) k n477 n478 p479 n480 H := by kernel_rfl
theorem L_CblkGrows_j1 {R : Type} (k : Nat) : JS Try.prog 143 (L_CblkGrows_a1 R k k) [0, 1, 7, 13] ⟨[], [(0, [])], [6]⟩ (.loop (sel [1, 1, 1, 1, 1, 1, 1, 0, 1, 0, 0] (Try.f7.body.getD .skip))) :=
  loop_ok (nt := 143) (c := (sel [1, 1, 1, 1, 1, 1, 1, 0, 1, 0, 0] (Try.f7.body.getD .skip))) (C := L_CblkGrows_C R k) (an := An) (t := (.seq (.seq (.reg [0, 1, 7, 13, 89] []) (.cond .leaf .leaf)) (.seq (.node (.seq (.reg [0, 1, 7, 13, 14] []) (.node (.opq 2 [0, 1, 7, 13, 14] ⟨[], [(2, [0, 1, 7, 13])], [6]⟩ (.node (.seq (.seq (.reg [0, 1, 7, 13, 14, 94] []) (.cond .leaf .leaf)) (.seq (.opq 3 [0, 1, 7, 13, 14] ⟨[0, 1, 7, 13, 14], [], [6]⟩ (.node (.seq (.reg [0, 1, 7, 13, 14, 15, 16] []) (.seq (.reg [0, 1, 7, 13, 14, 15, 16, 18, 19] []) (.seq (.reg [0, 1, 7, 13, 14, 141] []) (.cond (.seq (.reg [6] []) .leaf) .leaf)))))) (.reg [0, 1, 7, 13, 14] [])))))))) (.reg [0, 1, 7, 13] [])))) (ic := L_CblkGrows_i1) (L_CblkGrows_S R k) (L_CblkGrows_J R k) (by kernel_rfl) (And.intro (And.intro True.intro (And.intro True.intro True.intro)) (And.intro (And.intro True.intro (L_CblkGrows_j2 k)) True.intro)) (L_CblkGrows_a1 R k) (fun vals H K => by unfold L_CblkGrows_a1 L_CblkGrows_aa1; split <;> rfl)
    (fun n vals H K r h => by
      unfold L_CblkGrows_a1 L_CblkGrows_aa1 at h
      split at h <;> first | (cases h; done) | exact Eq.trans (L_CblkGrows_e1 L_small L_exampleHoldsq (L_played k) (cblk_Block_Significant k) (L_counts k) (cblk_Block_Mark k) (L_grown k) (cblk_Block_Neighbors k) (cblk_Block_Signs k) (L_CblkGrows_p0 k) (L_CblkGrows_l1 k) (L_CblkGrows_l2 k) (L_CblkGrows_p3 k) k n _ _ _ _ H K) h) k
theorem L_CblkGrows_e0 {R : Type} (L_small : Int → Int → Option Addr → Nat → Nat → (Bool → Option R) → Option R) (L_exampleHoldsq : (Bool → Option R) → Option R) (L_played : Int → Int → Option Addr → Nat → Nat → Heap → (Option Addr → Option Addr → Heap → Option R) → Option R) (cblk_Block_Significant : Option Addr → Int → Int → Heap → (Bool → Option R) → Option R) (L_counts : Option Addr → Int → Int → Bool → Heap → (Option Addr → Nat → Nat → Heap → Option R) → Option R) (cblk_Block_Mark : Option Addr → Int → Int → Heap → (Int → Heap → Option R) → Option R) (L_grown : Option Addr → Nat → Nat → Option Addr → Nat → Nat → Int → Int → Int → Int → Bool → Heap → (Bool → Heap → Option R) → Option R) (cblk_Block_Neighbors : Option Addr → Int → Int → Bool → Heap → (Int → Int → Int → Option R) → Option R) (cblk_Block_Signs : Option Addr → Int → Int → Bool → Heap → (Int → Int → Option R) → Option R) (L_CblkGrows_p0 : Int → Int → Option Addr → Int → Int → Option Addr → Nat → Nat → Option Addr → Nat → Nat → Heap → (Int → Int → Option Addr → Heap → Option R) → (Bool → Heap → Option R) → Option R) (L_CblkGrows_l1 : (Unit → Option R) → (Bool → Option R) → Nat → Int → Int → Option Addr → Int → Heap → Option R) (L_CblkGrows_l2 : (Int → Int → Option Addr → Int → Option R) → (Bool → Option R) → Nat → Int → Int → Option Addr → Int → Int → Heap → Option R) (L_CblkGrows_p3 : Int → Int → Option Addr → Int → Int → Heap → (Int → Int → Option Addr → Int → Int → Option R) → (Bool → Option R) → Option R) (k : Nat) (n444 : Int) (n445 : Int) (p446 : Option Addr) (n447 : Int) (n448 : Int) (q449 : Option Addr) (l450 : Nat) (c451 : Nat) (q452 : Option Addr) (l453 : Nat) (c454 : Nat) (H : Heap) (K : Xit → Env → Heap → Option R) : evJ (L_CblkGrows_Ct L_small L_exampleHoldsq L_played cblk_Block_Significant L_counts cblk_Block_Mark L_grown cblk_Block_Neighbors cblk_Block_Signs) (L_CblkGrows_Jt k L_CblkGrows_p0 L_CblkGrows_l1 L_CblkGrows_l2 L_CblkGrows_p3) L_CblkGrows_i0 (List.zip [0, 1, 7, 9, 10, 11, 12] [.int .i64 n444, .int .i64 n445, .pointer p446, .int .i64 n447, .int .i64 n448, .slice q449 l450 c451, .slice q452 l453 c454]) H (fun x e' H' => K x (clean e' ((⟨[0, 1, 7], [], [6]⟩ : Out).of x)) H') = L_CblkGrows_p0_b cblk_Block_Mark L_counts L_grown k n444 n445 p446 n447 n448 q449 l450 c451 q452 l453 c454 H (fun n1462 n1463 p1464 H => K .normal [(0, .int .i64 n1462), (1, .int .i64 n1463), (7, .pointer p1464)] H) (fun t1465 H => K .ret [(6, .bool t1465)] H) := by kernel_rfl
theorem L_CblkGrows_j0 {R : Type} (k : Nat) : JS Try.prog 143 (L_CblkGrows_a0 R k k) [0, 1, 7, 9, 10, 11, 12] ⟨[0, 1, 7], [], [6]⟩ (sel [1, 1, 1, 1, 1, 1, 0] (Try.f7.body.getD .skip)) :=
  piece_ok (nt := 143) (c := (sel [1, 1, 1, 1, 1, 1, 0] (Try.f7.body.getD .skip))) (C := L_CblkGrows_C R k) (an := An) (t := (.seq (.reg [0, 1, 7, 86] []) (.cond (.seq (.reg [6] []) .leaf) .leaf))) (ic := L_CblkGrows_i0) (L_CblkGrows_S R k) (L_CblkGrows_J R k) (by kernel_rfl) (And.intro True.intro (And.intro (And.intro True.intro True.intro) True.intro)) (L_CblkGrows_a0 R k k)
    (fun vals H K r h => by
      unfold L_CblkGrows_a0 L_CblkGrows_aa0 at h
      split at h <;> first | (cases h; done) | exact Eq.trans (L_CblkGrows_e0 L_small L_exampleHoldsq (L_played k) (cblk_Block_Significant k) (L_counts k) (cblk_Block_Mark k) (L_grown k) (cblk_Block_Neighbors k) (cblk_Block_Signs k) (L_CblkGrows_p0 k) (L_CblkGrows_l1 k) (L_CblkGrows_l2 k) (L_CblkGrows_p3 k) k _ _ _ _ _ _ _ _ _ _ _ H K) h)
def L_CblkGrows_ca {R : Type} (f : Int → Int → Option Addr → Nat → Nat → Heap → (Bool → Heap → Option R) → Option R) (args : List Value) (H : Heap) (K : Value → Heap → Option R) : Option R :=
  match args with
  | [.int .i64 n422, .int .i64 n423, .slice q424 l425 c426] => f n422 n423 q424 l425 c426 H (fun t1478 H => K (.bool t1478) H)
  | _ => none
def L_CblkGrows_c (R : Type) (k : Nat) (args : List Value) (H : Heap) (K : Value → Heap → Option R) : Option R := L_CblkGrows_ca (L_CblkGrows k) args H K
theorem L_CblkGrows_e {R : Type} (L_small : Int → Int → Option Addr → Nat → Nat → (Bool → Option R) → Option R) (L_exampleHoldsq : (Bool → Option R) → Option R) (L_played : Int → Int → Option Addr → Nat → Nat → Heap → (Option Addr → Option Addr → Heap → Option R) → Option R) (cblk_Block_Significant : Option Addr → Int → Int → Heap → (Bool → Option R) → Option R) (L_counts : Option Addr → Int → Int → Bool → Heap → (Option Addr → Nat → Nat → Heap → Option R) → Option R) (cblk_Block_Mark : Option Addr → Int → Int → Heap → (Int → Heap → Option R) → Option R) (L_grown : Option Addr → Nat → Nat → Option Addr → Nat → Nat → Int → Int → Int → Int → Bool → Heap → (Bool → Heap → Option R) → Option R) (cblk_Block_Neighbors : Option Addr → Int → Int → Bool → Heap → (Int → Int → Int → Option R) → Option R) (cblk_Block_Signs : Option Addr → Int → Int → Bool → Heap → (Int → Int → Option R) → Option R) (L_CblkGrows_p0 : Int → Int → Option Addr → Int → Int → Option Addr → Nat → Nat → Option Addr → Nat → Nat → Heap → (Int → Int → Option Addr → Heap → Option R) → (Bool → Heap → Option R) → Option R) (L_CblkGrows_l1 : (Unit → Option R) → (Bool → Option R) → Nat → Int → Int → Option Addr → Int → Heap → Option R) (L_CblkGrows_l2 : (Int → Int → Option Addr → Int → Option R) → (Bool → Option R) → Nat → Int → Int → Option Addr → Int → Int → Heap → Option R) (L_CblkGrows_p3 : Int → Int → Option Addr → Int → Int → Heap → (Int → Int → Option Addr → Int → Int → Option R) → (Bool → Option R) → Option R) (k : Nat) (n422 : Int) (n423 : Int) (q424 : Option Addr) (l425 : Nat) (c426 : Nat) (H : Heap) (K : Value → Heap → Option R) : evF (L_CblkGrows_Ct L_small L_exampleHoldsq L_played cblk_Block_Significant L_counts cblk_Block_Mark L_grown cblk_Block_Neighbors cblk_Block_Signs) (L_CblkGrows_Jt k L_CblkGrows_p0 L_CblkGrows_l1 L_CblkGrows_l2 L_CblkGrows_p3) L_CblkGrows_f [.int .i64 n422, .int .i64 n423, .slice q424 l425 c426] H K = L_CblkGrows_b L_small L_exampleHoldsq L_played cblk_Block_Significant L_counts L_CblkGrows_p0 L_CblkGrows_l1 k n422 n423 q424 l425 c426 H (fun t1478 H => K (.bool t1478) H) := by kernel_rfl
theorem L_CblkGrows_cs (R : Type) (k : Nat) : ∀ args H K r, L_CblkGrows_c R k args H K = some r → ∃ v H', Tri Try.prog 7 args H v H' ∧ K v H' = some r := by
  intro args H K r h
  unfold L_CblkGrows_c L_CblkGrows_ca at h
  split at h
  · exact evF_ok (C := L_CblkGrows_C R k) (an := An) (t := L_CblkGrows_at) (fn := Try.f7) (c := (Try.f7.body.getD .skip)) (ifn := L_CblkGrows_f) (L_CblkGrows_S R k) (L_CblkGrows_J R k) Try.func7 (by kernel_rfl) (by kernel_rfl) (And.intro True.intro (And.intro (And.intro True.intro (And.intro (And.intro True.intro True.intro) True.intro)) (And.intro True.intro (And.intro True.intro (And.intro (And.intro True.intro (And.intro (And.intro True.intro True.intro) True.intro)) (And.intro True.intro (And.intro (L_CblkGrows_j0 k) (And.intro (And.intro True.intro (L_CblkGrows_j1 k)) (And.intro True.intro True.intro))))))))) rfl (Eq.trans (L_CblkGrows_e L_small L_exampleHoldsq (L_played k) (cblk_Block_Significant k) (L_counts k) (cblk_Block_Mark k) (L_grown k) (cblk_Block_Neighbors k) (cblk_Block_Signs k) (L_CblkGrows_p0 k) (L_CblkGrows_l1 k) (L_CblkGrows_l2 k) (L_CblkGrows_p3 k) k _ _ _ _ _ H K) h)
  · cases h
/-! ### cblk_Block_Value: function 33 -/
def cblk_Block_Value_b {R : Type} (cblk_Block_at : Option Addr → Int → Int → Heap → (Option Addr → Option R) → Option R) (k : Nat) (p754 : Option Addr) (n755 : Int) (n756 : Int) (H : Heap) (K : Int → Option R) : Option R :=
cblk_Block_at p754 n755 n756 H fun p757 =>
bif p757.isSome then (hnil p757 fun p758 =>
hfad 0 p758 fun p759 =>
ldI .i64 H p759 fun n760 =>
K n760)
 else (K 0)

def cblk_Block_Value {R : Type} (k : Nat) (p754 : Option Addr) (n755 : Int) (n756 : Int) (H : Heap) (K : Int → Option R) : Option R := cblk_Block_Value_b (cblk_Block_at k) k p754 n755 n756 H K

def cblk_Block_Value_Ct {R : Type} (cblk_Block_at : Option Addr → Int → Int → Heap → (Option Addr → Option R) → Option R) : Tab R := tcons 46 (cblk_Block_at_ca cblk_Block_at) <| fun _ _ _ _ => none
def cblk_Block_Value_C (R : Type) (k : Nat) : Tab R := cblk_Block_Value_Ct (cblk_Block_at k)
theorem cblk_Block_Value_S (R : Type) (k : Nat) : CSound Try.prog (cblk_Block_Value_C R k) := csound_cons (cblk_Block_at_cs R k) <| csound_nil
def cblk_Block_Value_Jt {R : Type} (k : Nat) : JTab R := fun _ _ _ _ => none
def cblk_Block_Value_J (R : Type) (k : Nat) : JTab R := cblk_Block_Value_Jt k
def cblk_Block_Value_at : AT := (.seq (.reg [0, 1, 2] []) (.seq (.seq (.reg [7] []) (.seq (.reg [7, 13] []) (.cond (.seq (.reg [6] []) .leaf) .leaf))) (.seq (.reg [6] []) .leaf)))
def cblk_Block_Value_f : IFn := ⟨18, [.t 6], (.seq (.reg [⟨some 6, .mov (.c (Go.Value.int Go.IntKind.i64 0)), none⟩] [0, 1, 2]) (.seq (.seq (.reg [⟨some 8, .mov (.t 0), none⟩,
 ⟨some 9, .mov (.t 1), none⟩,
 ⟨some 10, .mov (.t 2), none⟩,
 ⟨some 11, .call 46 [(.t 8), (.t 9), (.t 10)] (.one (.sc .ptr)), none⟩,
 ⟨some 7, .mov (.t 11), none⟩] [7]) (.seq (.reg [⟨some 12, .mov (.t 7), none⟩,
 ⟨some 13, .eqnil (.t 12) true 0, none⟩] [7, 13]) (.cond (.t 13) (.seq (.reg [⟨some 14, .mov (.t 7), none⟩,
 ⟨some 15, .nilc (.t 14), none⟩,
 ⟨some 16, .fad 0 (.t 15), none⟩,
 ⟨some 17, .ld (.sc (.int .i64)) (.t 16), none⟩,
 ⟨some 6, .mov (.t 17), none⟩] [6]) .ret) .skip))) (.seq (.reg [⟨some 6, .mov (.c (Go.Value.int Go.IntKind.i64 0)), none⟩] [6]) .ret)))⟩
def cblk_Block_Value_ca {R : Type} (f : Option Addr → Int → Int → Heap → (Int → Option R) → Option R) (args : List Value) (H : Heap) (K : Value → Heap → Option R) : Option R :=
  match args with
  | [.pointer p754, .int .i64 n755, .int .i64 n756] => f p754 n755 n756 H (fun n1479 => K (.int .i64 n1479) H)
  | _ => none
def cblk_Block_Value_c (R : Type) (k : Nat) (args : List Value) (H : Heap) (K : Value → Heap → Option R) : Option R := cblk_Block_Value_ca (cblk_Block_Value k) args H K
theorem cblk_Block_Value_e {R : Type} (cblk_Block_at : Option Addr → Int → Int → Heap → (Option Addr → Option R) → Option R) (k : Nat) (p754 : Option Addr) (n755 : Int) (n756 : Int) (H : Heap) (K : Value → Heap → Option R) : evF (cblk_Block_Value_Ct cblk_Block_at) (cblk_Block_Value_Jt k) cblk_Block_Value_f [.pointer p754, .int .i64 n755, .int .i64 n756] H K = cblk_Block_Value_b cblk_Block_at k p754 n755 n756 H (fun n1479 => K (.int .i64 n1479) H) := by kernel_rfl
theorem cblk_Block_Value_cs (R : Type) (k : Nat) : ∀ args H K r, cblk_Block_Value_c R k args H K = some r → ∃ v H', Tri Try.prog 33 args H v H' ∧ K v H' = some r := by
  intro args H K r h
  unfold cblk_Block_Value_c cblk_Block_Value_ca at h
  split at h
  · exact evF_ok (C := cblk_Block_Value_C R k) (an := An) (t := cblk_Block_Value_at) (fn := Try.f33) (c := (Try.f33.body.getD .skip)) (ifn := cblk_Block_Value_f) (cblk_Block_Value_S R k) (cblk_Block_Value_J R k) Try.func33 (by kernel_rfl) (by kernel_rfl) (And.intro True.intro (And.intro (And.intro True.intro (And.intro True.intro (And.intro (And.intro True.intro True.intro) True.intro))) (And.intro True.intro True.intro))) rfl (Eq.trans (cblk_Block_Value_e (cblk_Block_at k) k _ _ _ H K) h)
  · cases h
end Go.Proofs.Ytblpaolcgkjcgaa.Sh
