/- Lean functions that stand for Go's, over an explicit heap, and the proofs that they do (written by this claim's program shallow.py). -/
import Derived.Test.YtblpaolcgkjcgaaSh0
import Derived.Test.YtblpaolcgkjcgaaSh1
import Derived.Test.YtblpaolcgkjcgaaSh2
import Derived.Test.YtblpaolcgkjcgaaSh5
import Derived.Test.YtblpaolcgkjcgaaSh9
set_option maxRecDepth 100000
set_option linter.unusedVariables false
set_option linter.unusedSimpArgs false
namespace Go.Proofs.Ytblpaolcgkjcgaa.Sh
open Go.Proofs.Ytblpaolcgkjcgaa.FW
/-! ### L_counts: function 26 -/
def L_counts_l1_b {R : Type} (cblk_Block_Neighbors : Option Addr → Int → Int → Bool → Heap → (Int → Int → Int → Option R) → Option R) (rec : Option Addr → Int → Int → Bool → Option Addr → Nat → Nat → Int → Int → Heap → Option R) (KE2 : Option Addr → Int → Int → Bool → Option Addr → Nat → Nat → Int → Heap → Option R) (k : Nat) (p448 : Option Addr) (n449 : Int) (n450 : Int) (t451 : Bool) (q452 : Option Addr) (l453 : Nat) (c454 : Nat) (n455 : Int) (n456 : Int) (H : Heap) : Option R :=
bif decide (n456 < n449) then (cblk_Block_Neighbors p448 n456 n455 t451 H fun n457 n458 n459 =>
hal H [.int .i64 n457, .int .i64 n458, .int .i64 n459] fun p460 H461 =>
happS 1 8 H461 q452 l453 c454 p460 3 fun q462 l463 c464 H465 =>
rec p448 n449 n450 t451 q462 l463 c464 n455 (IntKind.wrap .i64 (n456 + 1)) H465)
 else (KE2 p448 n449 n450 t451 q452 l453 c454 n455 H)
def L_counts_l1 {R : Type} (k : Nat) (KE2 : Option Addr → Int → Int → Bool → Option Addr → Nat → Nat → Int → Heap → Option R) : Nat → Option Addr → Int → Int → Bool → Option Addr → Nat → Nat → Int → Int → Heap → Option R
  | 0, _, _, _, _, _, _, _, _, _, _ => none
  | n + 1, p448, n449, n450, t451, q452, l453, c454, n455, n456, H => L_counts_l1_b (cblk_Block_Neighbors k) (L_counts_l1 k KE2 n) KE2 k p448 n449 n450 t451 q452 l453 c454 n455 n456 H

def L_counts_l0_b {R : Type} (L_counts_l1 : (Option Addr → Int → Int → Bool → Option Addr → Nat → Nat → Int → Heap → Option R) → Nat → Option Addr → Int → Int → Bool → Option Addr → Nat → Nat → Int → Int → Heap → Option R) (rec : Option Addr → Int → Int → Bool → Option Addr → Nat → Nat → Int → Heap → Option R) (KE0 : Option Addr → Nat → Nat → Heap → Option R) (k : Nat) (p440 : Option Addr) (n441 : Int) (n442 : Int) (t443 : Bool) (q444 : Option Addr) (l445 : Nat) (c446 : Nat) (n447 : Int) (H : Heap) : Option R :=
bif decide (n447 < n442) then (L_counts_l1 (fun p474 n475 n476 t477 q478 l479 c480 n481 H482 =>
rec p474 n475 n476 t477 q478 l479 c480 (IntKind.wrap .i64 (n481 + 1)) H482) k p440 n441 n442 t443 q444 l445 c446 n447 0 H)
 else (KE0 q444 l445 c446 H)
def L_counts_l0 {R : Type} (k : Nat) (KE0 : Option Addr → Nat → Nat → Heap → Option R) : Nat → Option Addr → Int → Int → Bool → Option Addr → Nat → Nat → Int → Heap → Option R
  | 0, _, _, _, _, _, _, _, _, _ => none
  | n + 1, p440, n441, n442, t443, q444, l445, c446, n447, H => L_counts_l0_b (L_counts_l1 k) (L_counts_l0 k KE0 n) KE0 k p440 n441 n442 t443 q444 l445 c446 n447 H

def L_counts_b {R : Type} (L_counts_l0 : (Option Addr → Nat → Nat → Heap → Option R) → Nat → Option Addr → Int → Int → Bool → Option Addr → Nat → Nat → Int → Heap → Option R) (k : Nat) (p436 : Option Addr) (n437 : Int) (n438 : Int) (t439 : Bool) (H : Heap) (K : Option Addr → Nat → Nat → Heap → Option R) : Option R :=
L_counts_l0 (fun q486 l487 c488 H489 =>
K q486 l487 c488 H489) k p436 n437 n438 t439 none 0 0 0 H

def L_counts {R : Type} (k : Nat) (p436 : Option Addr) (n437 : Int) (n438 : Int) (t439 : Bool) (H : Heap) (K : Option Addr → Nat → Nat → Heap → Option R) : Option R := L_counts_b (L_counts_l0 k) k p436 n437 n438 t439 H K

def L_counts_Ct {R : Type} (cblk_Block_Neighbors : Option Addr → Int → Int → Bool → Heap → (Int → Int → Int → Option R) → Option R) : Tab R := tcons 29 (cblk_Block_Neighbors_ca cblk_Block_Neighbors) <| fun _ _ _ _ => none
def L_counts_C (R : Type) (k : Nat) : Tab R := L_counts_Ct (cblk_Block_Neighbors k)
theorem L_counts_S (R : Type) (k : Nat) : CSound Try.prog (L_counts_C R k) := csound_cons (cblk_Block_Neighbors_cs R k) <| csound_nil
def L_counts_aa0 {R : Type} (f : (Option Addr → Nat → Nat → Heap → Option R) → Nat → Option Addr → Int → Int → Bool → Option Addr → Nat → Nat → Int → Heap → Option R) (n : Nat) (vals : List Value) (H : Heap) (K : Xit → Env → Heap → Option R) : Option R :=
  match vals with
  | [.pointer p440, .int .i64 n441, .int .i64 n442, .bool t443, .slice q444 l445 c446, .int .i64 n447] => f (fun q1375 l1376 c1377 H => K (.exit 0) [(9, .slice q1375 l1376 c1377)] H) n p440 n441 n442 t443 q444 l445 c446 n447 H
  | _ => none
def L_counts_a0 (R : Type) (k n : Nat) (vals : List Value) (H : Heap) (K : Xit → Env → Heap → Option R) : Option R := L_counts_aa0 (L_counts_l0 k) n vals H K
def L_counts_aa1 {R : Type} (f : (Option Addr → Int → Int → Bool → Option Addr → Nat → Nat → Int → Heap → Option R) → Nat → Option Addr → Int → Int → Bool → Option Addr → Nat → Nat → Int → Int → Heap → Option R) (n : Nat) (vals : List Value) (H : Heap) (K : Xit → Env → Heap → Option R) : Option R :=
  match vals with
  | [.pointer p448, .int .i64 n449, .int .i64 n450, .bool t451, .slice q452 l453 c454, .int .i64 n455, .int .i64 n456] => f (fun p1378 n1379 n1380 t1381 q1382 l1383 c1384 n1385 H => K (.exit 2) [(0, .pointer p1378), (1, .int .i64 n1379), (2, .int .i64 n1380), (3, .bool t1381), (9, .slice q1382 l1383 c1384), (10, .int .i64 n1385)] H) n p448 n449 n450 t451 q452 l453 c454 n455 n456 H
  | _ => none
def L_counts_a1 (R : Type) (k n : Nat) (vals : List Value) (H : Heap) (K : Xit → Env → Heap → Option R) : Option R := L_counts_aa1 (L_counts_l1 k) n vals H K
def L_counts_Jt {R : Type} (k : Nat) (L_counts_l0 : (Option Addr → Nat → Nat → Heap → Option R) → Nat → Option Addr → Int → Int → Bool → Option Addr → Nat → Nat → Int → Heap → Option R) (L_counts_l1 : (Option Addr → Int → Int → Bool → Option Addr → Nat → Nat → Int → Heap → Option R) → Nat → Option Addr → Int → Int → Bool → Option Addr → Nat → Nat → Int → Int → Heap → Option R) : JTab R := tcons 0 (L_counts_aa0 L_counts_l0 k) <| tcons 1 (L_counts_aa1 L_counts_l1 k) <| fun _ _ _ _ => none
def L_counts_J (R : Type) (k : Nat) : JTab R := L_counts_Jt k (L_counts_l0 k) (L_counts_l1 k)
def L_counts_at : AT := (.seq (.reg [0, 1, 2, 3] []) (.seq (.reg [0, 1, 2, 3, 9] []) (.seq (.seq (.reg [0, 1, 2, 3, 9, 10] []) (.node (.opq 0 [0, 1, 2, 3, 9, 10] ⟨[], [(0, [9])], []⟩ (.node (.seq (.seq (.reg [0, 1, 2, 3, 9, 10, 17] []) (.cond .leaf .leaf)) (.seq (.node (.seq (.reg [0, 1, 2, 3, 9, 10, 11] []) (.node (.opq 1 [0, 1, 2, 3, 9, 10, 11] ⟨[], [(2, [0, 1, 2, 3, 9, 10])], []⟩ (.node (.seq (.seq (.reg [0, 1, 2, 3, 9, 10, 11, 22] []) (.cond .leaf .leaf)) (.seq (.node (.seq (.reg [0, 1, 2, 3, 9, 10, 11, 12, 13, 14] []) (.reg [0, 1, 2, 3, 9, 10, 11] []))) (.reg [0, 1, 2, 3, 9, 10, 11] [])))))))) (.reg [0, 1, 2, 3, 9, 10] []))))))) (.seq (.reg [8] []) .leaf))))
def L_counts_i1 : IC := (.seq (.seq (.reg [⟨some 20, .mov (.t 11), none⟩,
 ⟨some 21, .mov (.t 1), none⟩,
 ⟨some 22, .cmp .lss (.t 20) (.t 21), none⟩] [0, 1, 2, 3, 9, 10, 11, 22]) (.cond (.t 22) .skip (.exit 2))) (.seq (.block 3 (.seq (.reg [⟨some 26, .mov (.t 0), none⟩,
 ⟨some 27, .mov (.t 11), none⟩,
 ⟨some 28, .mov (.t 10), none⟩,
 ⟨some 29, .mov (.t 3), none⟩,
 ⟨some 30, .call 29 [(.t 26), (.t 27), (.t 28), (.t 29)] (.tup [(.sc (.int .i64)), (.sc (.int .i64)), (.sc (.int .i64))]), none⟩,
 ⟨some 25, .mov (.t 30), none⟩,
 ⟨some 31, .ext 0 (.t 25), none⟩,
 ⟨some 32, .ext 1 (.t 25), none⟩,
 ⟨some 33, .ext 2 (.t 25), none⟩,
 ⟨some 12, .mov (.t 31), none⟩,
 ⟨some 13, .mov (.t 32), none⟩,
 ⟨some 14, .mov (.t 33), none⟩] [0, 1, 2, 3, 9, 10, 11, 12, 13, 14]) (.reg [⟨some 34, .mov (.t 9), none⟩,
 ⟨some 35, .mov (.t 12), none⟩,
 ⟨some 36, .mov (.t 13), none⟩,
 ⟨some 37, .mov (.t 14), none⟩,
 ⟨some 38, .bls 3 [.int .i64 0, .int .i64 0, .int .i64 0] [(0, 1, (.t 35)), (1, 1, (.t 36)), (2, 1, (.t 37))], none⟩,
 ⟨some 39, .app [.int .i64 0] 8 (.t 34) (.t 38), none⟩,
 ⟨some 9, .mov (.t 39), none⟩] [0, 1, 2, 3, 9, 10, 11]))) (.reg [⟨some 23, .mov (.t 11), none⟩,
 ⟨some 24, .bin .add .i64 (.t 23) (.c (Go.Value.int Go.IntKind.i64 1)), none⟩,
 ⟨some 11, .mov (.t 24), none⟩] [0, 1, 2, 3, 9, 10, 11])))
def L_counts_i0 : IC := (.seq (.seq (.reg [⟨some 15, .mov (.t 10), none⟩,
 ⟨some 16, .mov (.t 2), none⟩,
 ⟨some 17, .cmp .lss (.t 15) (.t 16), none⟩] [0, 1, 2, 3, 9, 10, 17]) (.cond (.t 17) .skip (.exit 0))) (.seq (.block 1 (.seq (.reg [⟨some 11, .mov (.c (Go.Value.int Go.IntKind.i64 0)), none⟩] [0, 1, 2, 3, 9, 10, 11]) (.block 2 (.opq 1 [0, 1, 2, 3, 9, 10, 11] (.loop L_counts_i1))))) (.reg [⟨some 18, .mov (.t 10), none⟩,
 ⟨some 19, .bin .add .i64 (.t 18) (.c (Go.Value.int Go.IntKind.i64 1)), none⟩,
 ⟨some 10, .mov (.t 19), none⟩] [0, 1, 2, 3, 9, 10])))
def L_counts_f : IFn := ⟨41, [.t 8], (.seq (.reg [⟨some 8, .mov (.c (Go.Value.slice none 0 0)), none⟩] [0, 1, 2, 3]) (.seq (.reg [⟨some 9, .mov (.c (Go.Value.slice none 0 0)), none⟩] [0, 1, 2, 3, 9]) (.seq (.seq (.reg [⟨some 10, .mov (.c (Go.Value.int Go.IntKind.i64 0)), none⟩] [0, 1, 2, 3, 9, 10]) (.block 0 (.opq 0 [0, 1, 2, 3, 9, 10] (.loop L_counts_i0)))) (.seq (.reg [⟨some 40, .mov (.t 9), none⟩,
 ⟨some 8, .mov (.t 40), none⟩] [8]) .ret))))⟩
theorem L_counts_e1 {R : Type} (cblk_Block_Neighbors : Option Addr → Int → Int → Bool → Heap → (Int → Int → Int → Option R) → Option R) (L_counts_l0 : (Option Addr → Nat → Nat → Heap → Option R) → Nat → Option Addr → Int → Int → Bool → Option Addr → Nat → Nat → Int → Heap → Option R) (L_counts_l1 : (Option Addr → Int → Int → Bool → Option Addr → Nat → Nat → Int → Heap → Option R) → Nat → Option Addr → Int → Int → Bool → Option Addr → Nat → Nat → Int → Int → Heap → Option R) (k n : Nat) (p448 : Option Addr) (n449 : Int) (n450 : Int) (t451 : Bool) (q452 : Option Addr) (l453 : Nat) (c454 : Nat) (n455 : Int) (n456 : Int) (H : Heap) (K : Xit → Env → Heap → Option R) : evJ (L_counts_Ct cblk_Block_Neighbors) (L_counts_Jt k L_counts_l0 L_counts_l1) L_counts_i1 (List.zip [0, 1, 2, 3, 9, 10, 11] [.pointer p448, .int .i64 n449, .int .i64 n450, .bool t451, .slice q452 l453 c454, .int .i64 n455, .int .i64 n456]) H (fun x e' H' => match x with | .normal => L_counts_aa1 L_counts_l1 n ((clean e' [0, 1, 2, 3, 9, 10, 11]).map (·.2)) H' K | x => K x (clean e' ((⟨[], [(2, [0, 1, 2, 3, 9, 10])], []⟩ : Out).of x)) H') = L_counts_l1_b cblk_Block_Neighbors (L_counts_l1 (fun p1378 n1379 n1380 t1381 q1382 l1383 c1384 n1385 H => K (.exit 2) [(0, .pointer p1378), (1, .int .i64 n1379), (2, .int .i64 n1380), (3, .bool t1381), (9, .slice q1382 l1383 c1384), (10, .int .i64 n1385)] H) n) (fun p1378 n1379 n1380 t1381 q1382 l1383 c1384 n1385 H => K (.exit 2) [(0, .pointer p1378), (1, .int .i64 n1379), (2, .int .i64 n1380), (3, .bool t1381), (9, .slice q1382 l1383 c1384), (10, .int .i64 n1385)] H) k p448 n449 n450 t451 q452 l453 c454 n455 n456 H := by kernel_rfl
theorem L_counts_j1 {R : Type} (k : Nat) : JS Try.prog 41 (L_counts_a1 R k k) [0, 1, 2, 3, 9, 10, 11] ⟨[], [(2, [0, 1, 2, 3, 9, 10])], []⟩ (.loop (sel [1, 1, 0, 1, 0, 0, 1, 0, 0, 1, 0, 0] (Try.f26.body.getD .skip))) :=
  loop_ok (nt := 41) (c := (sel [1, 1, 0, 1, 0, 0, 1, 0, 0, 1, 0, 0] (Try.f26.body.getD .skip))) (C := L_counts_C R k) (an := An) (t := (.seq (.seq (.reg [0, 1, 2, 3, 9, 10, 11, 22] []) (.cond .leaf .leaf)) (.seq (.node (.seq (.reg [0, 1, 2, 3, 9, 10, 11, 12, 13, 14] []) (.reg [0, 1, 2, 3, 9, 10, 11] []))) (.reg [0, 1, 2, 3, 9, 10, 11] [])))) (ic := L_counts_i1) (L_counts_S R k) (L_counts_J R k) (by kernel_rfl) (And.intro (And.intro True.intro (And.intro True.intro True.intro)) (And.intro (And.intro True.intro True.intro) True.intro)) (L_counts_a1 R k) (fun vals H K => by unfold L_counts_a1 L_counts_aa1; split <;> rfl)
    (fun n vals H K r h => by
      unfold L_counts_a1 L_counts_aa1 at h
      split at h <;> first | (cases h; done) | exact Eq.trans (L_counts_e1 (cblk_Block_Neighbors k) (L_counts_l0 k) (L_counts_l1 k) k n _ _ _ _ _ _ _ _ _ H K) h) k
theorem L_counts_e0 {R : Type} (cblk_Block_Neighbors : Option Addr → Int → Int → Bool → Heap → (Int → Int → Int → Option R) → Option R) (L_counts_l0 : (Option Addr → Nat → Nat → Heap → Option R) → Nat → Option Addr → Int → Int → Bool → Option Addr → Nat → Nat → Int → Heap → Option R) (L_counts_l1 : (Option Addr → Int → Int → Bool → Option Addr → Nat → Nat → Int → Heap → Option R) → Nat → Option Addr → Int → Int → Bool → Option Addr → Nat → Nat → Int → Int → Heap → Option R) (k n : Nat) (p440 : Option Addr) (n441 : Int) (n442 : Int) (t443 : Bool) (q444 : Option Addr) (l445 : Nat) (c446 : Nat) (n447 : Int) (H : Heap) (K : Xit → Env → Heap → Option R) : evJ (L_counts_Ct cblk_Block_Neighbors) (L_counts_Jt k L_counts_l0 L_counts_l1) L_counts_i0 (List.zip [0, 1, 2, 3, 9, 10] [.pointer p440, .int .i64 n441, .int .i64 n442, .bool t443, .slice q444 l445 c446, .int .i64 n447]) H (fun x e' H' => match x with | .normal => L_counts_aa0 L_counts_l0 n ((clean e' [0, 1, 2, 3, 9, 10]).map (·.2)) H' K | x => K x (clean e' ((⟨[], [(0, [9])], []⟩ : Out).of x)) H') = L_counts_l0_b L_counts_l1 (L_counts_l0 (fun q1375 l1376 c1377 H => K (.exit 0) [(9, .slice q1375 l1376 c1377)] H) n) (fun q1375 l1376 c1377 H => K (.exit 0) [(9, .slice q1375 l1376 c1377)] H) k p440 n441 n442 t443 q444 l445 c446 n447 H := by kernel_rfl
theorem L_counts_j0 {R : Type} (k : Nat) : JS Try.prog 41 (L_counts_a0 R k k) [0, 1, 2, 3, 9, 10] ⟨[], [(0, [9])], []⟩ (.loop (sel [1, 1, 0, 1, 0, 0] (Try.f26.body.getD .skip))) :=
  loop_ok (nt := 41) (c := (sel [1, 1, 0, 1, 0, 0] (Try.f26.body.getD .skip))) (C := L_counts_C R k) (an := An) (t := (.seq (.seq (.reg [0, 1, 2, 3, 9, 10, 17] []) (.cond .leaf .leaf)) (.seq (.node (.seq (.reg [0, 1, 2, 3, 9, 10, 11] []) (.node (.opq 1 [0, 1, 2, 3, 9, 10, 11] ⟨[], [(2, [0, 1, 2, 3, 9, 10])], []⟩ (.node (.seq (.seq (.reg [0, 1, 2, 3, 9, 10, 11, 22] []) (.cond .leaf .leaf)) (.seq (.node (.seq (.reg [0, 1, 2, 3, 9, 10, 11, 12, 13, 14] []) (.reg [0, 1, 2, 3, 9, 10, 11] []))) (.reg [0, 1, 2, 3, 9, 10, 11] [])))))))) (.reg [0, 1, 2, 3, 9, 10] [])))) (ic := L_counts_i0) (L_counts_S R k) (L_counts_J R k) (by kernel_rfl) (And.intro (And.intro True.intro (And.intro True.intro True.intro)) (And.intro (And.intro True.intro (L_counts_j1 k)) True.intro)) (L_counts_a0 R k) (fun vals H K => by unfold L_counts_a0 L_counts_aa0; split <;> rfl)
    (fun n vals H K r h => by
      unfold L_counts_a0 L_counts_aa0 at h
      split at h <;> first | (cases h; done) | exact Eq.trans (L_counts_e0 (cblk_Block_Neighbors k) (L_counts_l0 k) (L_counts_l1 k) k n _ _ _ _ _ _ _ _ H K) h) k
def L_counts_ca {R : Type} (f : Option Addr → Int → Int → Bool → Heap → (Option Addr → Nat → Nat → Heap → Option R) → Option R) (args : List Value) (H : Heap) (K : Value → Heap → Option R) : Option R :=
  match args with
  | [.pointer p436, .int .i64 n437, .int .i64 n438, .bool t439] => f p436 n437 n438 t439 H (fun q1386 l1387 c1388 H => K (.slice q1386 l1387 c1388) H)
  | _ => none
def L_counts_c (R : Type) (k : Nat) (args : List Value) (H : Heap) (K : Value → Heap → Option R) : Option R := L_counts_ca (L_counts k) args H K
theorem L_counts_e {R : Type} (cblk_Block_Neighbors : Option Addr → Int → Int → Bool → Heap → (Int → Int → Int → Option R) → Option R) (L_counts_l0 : (Option Addr → Nat → Nat → Heap → Option R) → Nat → Option Addr → Int → Int → Bool → Option Addr → Nat → Nat → Int → Heap → Option R) (L_counts_l1 : (Option Addr → Int → Int → Bool → Option Addr → Nat → Nat → Int → Heap → Option R) → Nat → Option Addr → Int → Int → Bool → Option Addr → Nat → Nat → Int → Int → Heap → Option R) (k : Nat) (p436 : Option Addr) (n437 : Int) (n438 : Int) (t439 : Bool) (H : Heap) (K : Value → Heap → Option R) : evF (L_counts_Ct cblk_Block_Neighbors) (L_counts_Jt k L_counts_l0 L_counts_l1) L_counts_f [.pointer p436, .int .i64 n437, .int .i64 n438, .bool t439] H K = L_counts_b L_counts_l0 k p436 n437 n438 t439 H (fun q1386 l1387 c1388 H => K (.slice q1386 l1387 c1388) H) := by kernel_rfl
theorem L_counts_cs (R : Type) (k : Nat) : ∀ args H K r, L_counts_c R k args H K = some r → ∃ v H', Tri Try.prog 26 args H v H' ∧ K v H' = some r := by
  intro args H K r h
  unfold L_counts_c L_counts_ca at h
  split at h
  · exact evF_ok (C := L_counts_C R k) (an := An) (t := L_counts_at) (fn := Try.f26) (c := (Try.f26.body.getD .skip)) (ifn := L_counts_f) (L_counts_S R k) (L_counts_J R k) Try.func26 (by kernel_rfl) (by kernel_rfl) (And.intro True.intro (And.intro True.intro (And.intro (And.intro True.intro (L_counts_j0 k)) (And.intro True.intro True.intro)))) rfl (Eq.trans (L_counts_e (cblk_Block_Neighbors k) (L_counts_l0 k) (L_counts_l1 k) k _ _ _ _ H K) h)
  · cases h
/-! ### L_grown: function 28 -/
def L_grown_p2_b {R : Type} (k : Nat) (q554 : Option Addr) (l555 : Nat) (c556 : Nat) (q557 : Option Addr) (l558 : Nat) (c559 : Nat) (n560 : Int) (n561 : Int) (n562 : Int) (n563 : Int) (t564 : Bool) (n565 : Int) (n566 : Int) (n567 : Int) (n568 : Int) (n569 : Int) (KN : Option Addr → Nat → Nat → Option Addr → Nat → Nat → Int → Int → Int → Int → Bool → Int → Int → Int → Int → Int → Bool → Option R) : Option R :=
bif decide (n568 ≤ 1) then (bif decide (n569 ≤ 1) then (bif decide ((IntKind.wrap .i64 (n568 + n569)) > 0) then (bif t564 then (bif (n563 == (IntKind.wrap .i64 (n565 + 1))) then (KN q554 l555 c556 q557 l558 c559 n560 n561 n562 n563 t564 n565 n566 n567 n568 n569 (!((Int.tmod n565 4) == 3)))
 else (KN q554 l555 c556 q557 l558 c559 n560 n561 n562 n563 t564 n565 n566 n567 n568 n569 true))
 else (KN q554 l555 c556 q557 l558 c559 n560 n561 n562 n563 t564 n565 n566 n567 n568 n569 true))
 else (KN q554 l555 c556 q557 l558 c559 n560 n561 n562 n563 t564 n565 n566 n567 n568 n569 false))
 else (KN q554 l555 c556 q557 l558 c559 n560 n561 n562 n563 t564 n565 n566 n567 n568 n569 false))
 else (KN q554 l555 c556 q557 l558 c559 n560 n561 n562 n563 t564 n565 n566 n567 n568 n569 false)
def L_grown_p2 {R : Type} (k : Nat) (q554 : Option Addr) (l555 : Nat) (c556 : Nat) (q557 : Option Addr) (l558 : Nat) (c559 : Nat) (n560 : Int) (n561 : Int) (n562 : Int) (n563 : Int) (t564 : Bool) (n565 : Int) (n566 : Int) (n567 : Int) (n568 : Int) (n569 : Int) (KN : Option Addr → Nat → Nat → Option Addr → Nat → Nat → Int → Int → Int → Int → Bool → Int → Int → Int → Int → Int → Bool → Option R) : Option R := L_grown_p2_b k q554 l555 c556 q557 l558 c559 n560 n561 n562 n563 t564 n565 n566 n567 n568 n569 KN

def L_grown_p3_b {R : Type} (k : Nat) (q604 : Option Addr) (l605 : Nat) (c606 : Nat) (q607 : Option Addr) (l608 : Nat) (c609 : Nat) (n610 : Int) (n611 : Int) (n612 : Int) (n613 : Int) (t614 : Bool) (n615 : Int) (n616 : Int) (n617 : Int) (n618 : Int) (n619 : Int) (t620 : Bool) (H : Heap) (KN : Option Addr → Nat → Nat → Option Addr → Nat → Nat → Int → Int → Int → Int → Bool → Int → Int → Int → Option Addr → Heap → Option R) : Option R :=
bif t620 then (bif t620 then (bif t620 then (hal H [.bool false, .bool false, .bool false] fun p621 H622 =>
hst H622 p621 [.bool (n619 == 0), .bool (n618 == 0), .bool ((IntKind.wrap .i64 (n618 + n619)) == 2)] fun H623 =>
KN q604 l605 c606 q607 l608 c609 n610 n611 n612 n613 t614 n615 n616 n617 p621 H623)
 else (hal H [.bool false, .bool false, .bool false] fun p624 H625 =>
hst H625 p624 [.bool (n619 == 0), .bool (n618 == 0), .bool false] fun H626 =>
KN q604 l605 c606 q607 l608 c609 n610 n611 n612 n613 t614 n615 n616 n617 p624 H626))
 else (bif t620 then (hal H [.bool false, .bool false, .bool false] fun p627 H628 =>
hst H628 p627 [.bool (n619 == 0), .bool false, .bool ((IntKind.wrap .i64 (n618 + n619)) == 2)] fun H629 =>
KN q604 l605 c606 q607 l608 c609 n610 n611 n612 n613 t614 n615 n616 n617 p627 H629)
 else (hal H [.bool false, .bool false, .bool false] fun p630 H631 =>
hst H631 p630 [.bool (n619 == 0), .bool false, .bool false] fun H632 =>
KN q604 l605 c606 q607 l608 c609 n610 n611 n612 n613 t614 n615 n616 n617 p630 H632)))
 else (bif t620 then (bif t620 then (hal H [.bool false, .bool false, .bool false] fun p633 H634 =>
hst H634 p633 [.bool false, .bool (n618 == 0), .bool ((IntKind.wrap .i64 (n618 + n619)) == 2)] fun H635 =>
KN q604 l605 c606 q607 l608 c609 n610 n611 n612 n613 t614 n615 n616 n617 p633 H635)
 else (hal H [.bool false, .bool false, .bool false] fun p636 H637 =>
hst H637 p636 [.bool false, .bool (n618 == 0), .bool false] fun H638 =>
KN q604 l605 c606 q607 l608 c609 n610 n611 n612 n613 t614 n615 n616 n617 p636 H638))
 else (bif t620 then (hal H [.bool false, .bool false, .bool false] fun p639 H640 =>
hst H640 p639 [.bool false, .bool false, .bool ((IntKind.wrap .i64 (n618 + n619)) == 2)] fun H641 =>
KN q604 l605 c606 q607 l608 c609 n610 n611 n612 n613 t614 n615 n616 n617 p639 H641)
 else (hal H [.bool false, .bool false, .bool false] fun p642 H643 =>
hst H643 p642 [.bool false, .bool false, .bool false] fun H644 =>
KN q604 l605 c606 q607 l608 c609 n610 n611 n612 n613 t614 n615 n616 n617 p642 H644)))
def L_grown_p3 {R : Type} (k : Nat) (q604 : Option Addr) (l605 : Nat) (c606 : Nat) (q607 : Option Addr) (l608 : Nat) (c609 : Nat) (n610 : Int) (n611 : Int) (n612 : Int) (n613 : Int) (t614 : Bool) (n615 : Int) (n616 : Int) (n617 : Int) (n618 : Int) (n619 : Int) (t620 : Bool) (H : Heap) (KN : Option Addr → Nat → Nat → Option Addr → Nat → Nat → Int → Int → Int → Int → Bool → Int → Int → Int → Option Addr → Heap → Option R) : Option R := L_grown_p3_b k q604 l605 c606 q607 l608 c609 n610 n611 n612 n613 t614 n615 n616 n617 n618 n619 t620 H KN

def L_grown_p5_b {R : Type} (k : Nat) (q692 : Option Addr) (l693 : Nat) (c694 : Nat) (q695 : Option Addr) (l696 : Nat) (c697 : Nat) (n698 : Int) (n699 : Int) (n700 : Int) (n701 : Int) (t702 : Bool) (n703 : Int) (n704 : Int) (n705 : Int) (p706 : Option Addr) (n707 : Int) (H : Heap) (KN : Option Addr → Nat → Nat → Option Addr → Nat → Nat → Int → Int → Int → Int → Bool → Int → Int → Int → Option Addr → Int → Option R) (KR : Bool → Option R) : Option R :=
hidx q695 l696 (IntKind.wrap .i64 (n705 + n707)) 1 fun p708 =>
ldI .i64 H p708 fun n709 =>
hidx q692 l693 (IntKind.wrap .i64 (n705 + n707)) 1 fun p710 =>
ldI .i64 H p710 fun n711 =>
bif ((IntKind.wrap .i64 (n709 - n711)) != 0) then (bif ((IntKind.wrap .i64 (n709 - n711)) != 1) then (KR false)
 else (hidx p706 3 n707 1 fun p712 =>
ldB H p712 fun t713 =>
bif !(((IntKind.wrap .i64 (n709 - n711)) == 1) == t713) then (KR false)
 else (KN q692 l693 c694 q695 l696 c697 n698 n699 n700 n701 t702 n703 n704 n705 p706 n707)))
 else (hidx p706 3 n707 1 fun p714 =>
ldB H p714 fun t715 =>
bif !(((IntKind.wrap .i64 (n709 - n711)) == 1) == t715) then (KR false)
 else (KN q692 l693 c694 q695 l696 c697 n698 n699 n700 n701 t702 n703 n704 n705 p706 n707))
def L_grown_p5 {R : Type} (k : Nat) (q692 : Option Addr) (l693 : Nat) (c694 : Nat) (q695 : Option Addr) (l696 : Nat) (c697 : Nat) (n698 : Int) (n699 : Int) (n700 : Int) (n701 : Int) (t702 : Bool) (n703 : Int) (n704 : Int) (n705 : Int) (p706 : Option Addr) (n707 : Int) (H : Heap) (KN : Option Addr → Nat → Nat → Option Addr → Nat → Nat → Int → Int → Int → Int → Bool → Int → Int → Int → Option Addr → Int → Option R) (KR : Bool → Option R) : Option R := L_grown_p5_b k q692 l693 c694 q695 l696 c697 n698 n699 n700 n701 t702 n703 n704 n705 p706 n707 H KN KR

def L_grown_l4_b {R : Type} (L_grown_p5 : Option Addr → Nat → Nat → Option Addr → Nat → Nat → Int → Int → Int → Int → Bool → Int → Int → Int → Option Addr → Int → Heap → (Option Addr → Nat → Nat → Option Addr → Nat → Nat → Int → Int → Int → Int → Bool → Int → Int → Int → Option Addr → Int → Option R) → (Bool → Option R) → Option R) (rec : Option Addr → Nat → Nat → Option Addr → Nat → Nat → Int → Int → Int → Int → Bool → Int → Int → Int → Option Addr → Int → Heap → Option R) (KE4 : Option Addr → Nat → Nat → Option Addr → Nat → Nat → Int → Int → Int → Int → Bool → Int → Int → Option R) (KR : Bool → Option R) (k : Nat) (q676 : Option Addr) (l677 : Nat) (c678 : Nat) (q679 : Option Addr) (l680 : Nat) (c681 : Nat) (n682 : Int) (n683 : Int) (n684 : Int) (n685 : Int) (t686 : Bool) (n687 : Int) (n688 : Int) (n689 : Int) (p690 : Option Addr) (n691 : Int) (H : Heap) : Option R :=
bif decide (n691 < 3) then (L_grown_p5 q676 l677 c678 q679 l680 c681 n682 n683 n684 n685 t686 n687 n688 n689 p690 n691 H (fun q733 l734 c735 q736 l737 c738 n739 n740 n741 n742 t743 n744 n745 n746 p747 n748 =>
rec q733 l734 c735 q736 l737 c738 n739 n740 n741 n742 t743 n744 n745 n746 p747 (IntKind.wrap .i64 (n748 + 1)) H) (fun t749 =>
KR t749))
 else (KE4 q676 l677 c678 q679 l680 c681 n682 n683 n684 n685 t686 n687 n688)
def L_grown_l4 {R : Type} (k : Nat) (KE4 : Option Addr → Nat → Nat → Option Addr → Nat → Nat → Int → Int → Int → Int → Bool → Int → Int → Option R) (KR : Bool → Option R) : Nat → Option Addr → Nat → Nat → Option Addr → Nat → Nat → Int → Int → Int → Int → Bool → Int → Int → Int → Option Addr → Int → Heap → Option R
  | 0, _, _, _, _, _, _, _, _, _, _, _, _, _, _, _, _, _ => none
  | n + 1, q676, l677, c678, q679, l680, c681, n682, n683, n684, n685, t686, n687, n688, n689, p690, n691, H => L_grown_l4_b (L_grown_p5 k) (L_grown_l4 k KE4 KR n) KE4 KR k q676 l677 c678 q679 l680 c681 n682 n683 n684 n685 t686 n687 n688 n689 p690 n691 H

def L_grown_l1_b {R : Type} (L_grown_p2 : Option Addr → Nat → Nat → Option Addr → Nat → Nat → Int → Int → Int → Int → Bool → Int → Int → Int → Int → Int → (Option Addr → Nat → Nat → Option Addr → Nat → Nat → Int → Int → Int → Int → Bool → Int → Int → Int → Int → Int → Bool → Option R) → Option R) (L_grown_p3 : Option Addr → Nat → Nat → Option Addr → Nat → Nat → Int → Int → Int → Int → Bool → Int → Int → Int → Int → Int → Bool → Heap → (Option Addr → Nat → Nat → Option Addr → Nat → Nat → Int → Int → Int → Int → Bool → Int → Int → Int → Option Addr → Heap → Option R) → Option R) (L_grown_l4 : (Option Addr → Nat → Nat → Option Addr → Nat → Nat → Int → Int → Int → Int → Bool → Int → Int → Option R) → (Bool → Option R) → Nat → Option Addr → Nat → Nat → Option Addr → Nat → Nat → Int → Int → Int → Int → Bool → Int → Int → Int → Option Addr → Int → Heap → Option R) (rec : Option Addr → Nat → Nat → Option Addr → Nat → Nat → Int → Int → Int → Int → Bool → Int → Int → Heap → Option R) (KE2 : Option Addr → Nat → Nat → Option Addr → Nat → Nat → Int → Int → Int → Int → Bool → Int → Heap → Option R) (KR : Bool → Heap → Option R) (k : Nat) (q541 : Option Addr) (l542 : Nat) (c543 : Nat) (q544 : Option Addr) (l545 : Nat) (c546 : Nat) (n547 : Int) (n548 : Int) (n549 : Int) (n550 : Int) (t551 : Bool) (n552 : Int) (n553 : Int) (H : Heap) : Option R :=
bif decide (n553 < n547) then (L_grown_p2 q541 l542 c543 q544 l545 c546 n547 n548 n549 n550 t551 n552 n553 (IntKind.wrap .i64 (3 * (IntKind.wrap .i64 ((IntKind.wrap .i64 (n552 * n547)) + n553)))) (imx (IntKind.wrap .i64 (n553 - n549)) (IntKind.wrap .i64 (n549 - n553))) (imx (IntKind.wrap .i64 (n552 - n550)) (IntKind.wrap .i64 (n550 - n552))) (fun q587 l588 c589 q590 l591 c592 n593 n594 n595 n596 t597 n598 n599 n600 n601 n602 t603 =>
L_grown_p3 q587 l588 c589 q590 l591 c592 n593 n594 n595 n596 t597 n598 n599 n600 n601 n602 t603 H (fun q660 l661 c662 q663 l664 c665 n666 n667 n668 n669 t670 n671 n672 n673 p674 H675 =>
L_grown_l4 (fun q764 l765 c766 q767 l768 c769 n770 n771 n772 n773 t774 n775 n776 =>
rec q764 l765 c766 q767 l768 c769 n770 n771 n772 n773 t774 n775 (IntKind.wrap .i64 (n776 + 1)) H675) (fun t777 =>
KR t777 H675) k q660 l661 c662 q663 l664 c665 n666 n667 n668 n669 t670 n671 n672 n673 p674 0 H675)))
 else (KE2 q541 l542 c543 q544 l545 c546 n547 n548 n549 n550 t551 n552 H)
def L_grown_l1 {R : Type} (k : Nat) (KE2 : Option Addr → Nat → Nat → Option Addr → Nat → Nat → Int → Int → Int → Int → Bool → Int → Heap → Option R) (KR : Bool → Heap → Option R) : Nat → Option Addr → Nat → Nat → Option Addr → Nat → Nat → Int → Int → Int → Int → Bool → Int → Int → Heap → Option R
  | 0, _, _, _, _, _, _, _, _, _, _, _, _, _, _ => none
  | n + 1, q541, l542, c543, q544, l545, c546, n547, n548, n549, n550, t551, n552, n553, H => L_grown_l1_b (L_grown_p2 k) (L_grown_p3 k) (L_grown_l4 k) (L_grown_l1 k KE2 KR n) KE2 KR k q541 l542 c543 q544 l545 c546 n547 n548 n549 n550 t551 n552 n553 H

def L_grown_l0_b {R : Type} (L_grown_l1 : (Option Addr → Nat → Nat → Option Addr → Nat → Nat → Int → Int → Int → Int → Bool → Int → Heap → Option R) → (Bool → Heap → Option R) → Nat → Option Addr → Nat → Nat → Option Addr → Nat → Nat → Int → Int → Int → Int → Bool → Int → Int → Heap → Option R) (rec : Option Addr → Nat → Nat → Option Addr → Nat → Nat → Int → Int → Int → Int → Bool → Int → Heap → Option R) (KE0 : Heap → Option R) (KR : Bool → Heap → Option R) (k : Nat) (q529 : Option Addr) (l530 : Nat) (c531 : Nat) (q532 : Option Addr) (l533 : Nat) (c534 : Nat) (n535 : Int) (n536 : Int) (n537 : Int) (n538 : Int) (t539 : Bool) (n540 : Int) (H : Heap) : Option R :=
bif decide (n540 < n536) then (L_grown_l1 (fun q791 l792 c793 q794 l795 c796 n797 n798 n799 n800 t801 n802 H803 =>
rec q791 l792 c793 q794 l795 c796 n797 n798 n799 n800 t801 (IntKind.wrap .i64 (n802 + 1)) H803) (fun t804 H805 =>
KR t804 H805) k q529 l530 c531 q532 l533 c534 n535 n536 n537 n538 t539 n540 0 H)
 else (KE0 H)
def L_grown_l0 {R : Type} (k : Nat) (KE0 : Heap → Option R) (KR : Bool → Heap → Option R) : Nat → Option Addr → Nat → Nat → Option Addr → Nat → Nat → Int → Int → Int → Int → Bool → Int → Heap → Option R
  | 0, _, _, _, _, _, _, _, _, _, _, _, _, _ => none
  | n + 1, q529, l530, c531, q532, l533, c534, n535, n536, n537, n538, t539, n540, H => L_grown_l0_b (L_grown_l1 k) (L_grown_l0 k KE0 KR n) KE0 KR k q529 l530 c531 q532 l533 c534 n535 n536 n537 n538 t539 n540 H

def L_grown_b {R : Type} (L_grown_l0 : (Heap → Option R) → (Bool → Heap → Option R) → Nat → Option Addr → Nat → Nat → Option Addr → Nat → Nat → Int → Int → Int → Int → Bool → Int → Heap → Option R) (k : Nat) (q518 : Option Addr) (l519 : Nat) (c520 : Nat) (q521 : Option Addr) (l522 : Nat) (c523 : Nat) (n524 : Int) (n525 : Int) (n526 : Int) (n527 : Int) (t528 : Bool) (H : Heap) (K : Bool → Heap → Option R) : Option R :=
L_grown_l0 (fun H807 =>
K true H807) (fun t808 H809 =>
K t808 H809) k q518 l519 c520 q521 l522 c523 n524 n525 n526 n527 t528 0 H

def L_grown {R : Type} (k : Nat) (q518 : Option Addr) (l519 : Nat) (c520 : Nat) (q521 : Option Addr) (l522 : Nat) (c523 : Nat) (n524 : Int) (n525 : Int) (n526 : Int) (n527 : Int) (t528 : Bool) (H : Heap) (K : Bool → Heap → Option R) : Option R := L_grown_b (L_grown_l0 k) k q518 l519 c520 q521 l522 c523 n524 n525 n526 n527 t528 H K

def L_grown_Ct {R : Type} : Tab R := fun _ _ _ _ => none
def L_grown_C (R : Type) (k : Nat) : Tab R := L_grown_Ct
theorem L_grown_S (R : Type) (k : Nat) : CSound Try.prog (L_grown_C R k) := csound_nil
def L_grown_aa0 {R : Type} (f : (Heap → Option R) → (Bool → Heap → Option R) → Nat → Option Addr → Nat → Nat → Option Addr → Nat → Nat → Int → Int → Int → Int → Bool → Int → Heap → Option R) (n : Nat) (vals : List Value) (H : Heap) (K : Xit → Env → Heap → Option R) : Option R :=
  match vals with
  | [.slice q529 l530 c531, .slice q532 l533 c534, .int .i64 n535, .int .i64 n536, .int .i64 n537, .int .i64 n538, .bool t539, .int .i64 n540] => f (fun H => K (.exit 0) [] H) (fun t1389 H => K .ret [(14, .bool t1389)] H) n q529 l530 c531 q532 l533 c534 n535 n536 n537 n538 t539 n540 H
  | _ => none
def L_grown_a0 (R : Type) (k n : Nat) (vals : List Value) (H : Heap) (K : Xit → Env → Heap → Option R) : Option R := L_grown_aa0 (L_grown_l0 k) n vals H K
def L_grown_aa1 {R : Type} (f : (Option Addr → Nat → Nat → Option Addr → Nat → Nat → Int → Int → Int → Int → Bool → Int → Heap → Option R) → (Bool → Heap → Option R) → Nat → Option Addr → Nat → Nat → Option Addr → Nat → Nat → Int → Int → Int → Int → Bool → Int → Int → Heap → Option R) (n : Nat) (vals : List Value) (H : Heap) (K : Xit → Env → Heap → Option R) : Option R :=
  match vals with
  | [.slice q541 l542 c543, .slice q544 l545 c546, .int .i64 n547, .int .i64 n548, .int .i64 n549, .int .i64 n550, .bool t551, .int .i64 n552, .int .i64 n553] => f (fun q1390 l1391 c1392 q1393 l1394 c1395 n1396 n1397 n1398 n1399 t1400 n1401 H => K (.exit 2) [(0, .slice q1390 l1391 c1392), (1, .slice q1393 l1394 c1395), (2, .int .i64 n1396), (3, .int .i64 n1397), (4, .int .i64 n1398), (5, .int .i64 n1399), (6, .bool t1400), (15, .int .i64 n1401)] H) (fun t1402 H => K .ret [(14, .bool t1402)] H) n q541 l542 c543 q544 l545 c546 n547 n548 n549 n550 t551 n552 n553 H
  | _ => none
def L_grown_a1 (R : Type) (k n : Nat) (vals : List Value) (H : Heap) (K : Xit → Env → Heap → Option R) : Option R := L_grown_aa1 (L_grown_l1 k) n vals H K
def L_grown_aa2 {R : Type} (f : Option Addr → Nat → Nat → Option Addr → Nat → Nat → Int → Int → Int → Int → Bool → Int → Int → Int → Int → Int → (Option Addr → Nat → Nat → Option Addr → Nat → Nat → Int → Int → Int → Int → Bool → Int → Int → Int → Int → Int → Bool → Option R) → Option R) (n : Nat) (vals : List Value) (H : Heap) (K : Xit → Env → Heap → Option R) : Option R :=
  match vals with
  | [.slice q554 l555 c556, .slice q557 l558 c559, .int .i64 n560, .int .i64 n561, .int .i64 n562, .int .i64 n563, .bool t564, .int .i64 n565, .int .i64 n566, .int .i64 n567, .int .i64 n568, .int .i64 n569] => f q554 l555 c556 q557 l558 c559 n560 n561 n562 n563 t564 n565 n566 n567 n568 n569 (fun q1403 l1404 c1405 q1406 l1407 c1408 n1409 n1410 n1411 n1412 t1413 n1414 n1415 n1416 n1417 n1418 t1419 => K .normal [(0, .slice q1403 l1404 c1405), (1, .slice q1406 l1407 c1408), (2, .int .i64 n1409), (3, .int .i64 n1410), (4, .int .i64 n1411), (5, .int .i64 n1412), (6, .bool t1413), (15, .int .i64 n1414), (16, .int .i64 n1415), (17, .int .i64 n1416), (18, .int .i64 n1417), (19, .int .i64 n1418), (20, .bool t1419)] H)
  | _ => none
def L_grown_a2 (R : Type) (k n : Nat) (vals : List Value) (H : Heap) (K : Xit → Env → Heap → Option R) : Option R := L_grown_aa2 (L_grown_p2 k) n vals H K
def L_grown_aa3 {R : Type} (f : Option Addr → Nat → Nat → Option Addr → Nat → Nat → Int → Int → Int → Int → Bool → Int → Int → Int → Int → Int → Bool → Heap → (Option Addr → Nat → Nat → Option Addr → Nat → Nat → Int → Int → Int → Int → Bool → Int → Int → Int → Option Addr → Heap → Option R) → Option R) (n : Nat) (vals : List Value) (H : Heap) (K : Xit → Env → Heap → Option R) : Option R :=
  match vals with
  | [.slice q604 l605 c606, .slice q607 l608 c609, .int .i64 n610, .int .i64 n611, .int .i64 n612, .int .i64 n613, .bool t614, .int .i64 n615, .int .i64 n616, .int .i64 n617, .int .i64 n618, .int .i64 n619, .bool t620] => f q604 l605 c606 q607 l608 c609 n610 n611 n612 n613 t614 n615 n616 n617 n618 n619 t620 H (fun q1420 l1421 c1422 q1423 l1424 c1425 n1426 n1427 n1428 n1429 t1430 n1431 n1432 n1433 p1434 H => K .normal [(0, .slice q1420 l1421 c1422), (1, .slice q1423 l1424 c1425), (2, .int .i64 n1426), (3, .int .i64 n1427), (4, .int .i64 n1428), (5, .int .i64 n1429), (6, .bool t1430), (15, .int .i64 n1431), (16, .int .i64 n1432), (17, .int .i64 n1433), (21, .pointer p1434)] H)
  | _ => none
def L_grown_a3 (R : Type) (k n : Nat) (vals : List Value) (H : Heap) (K : Xit → Env → Heap → Option R) : Option R := L_grown_aa3 (L_grown_p3 k) n vals H K
def L_grown_aa4 {R : Type} (f : (Option Addr → Nat → Nat → Option Addr → Nat → Nat → Int → Int → Int → Int → Bool → Int → Int → Option R) → (Bool → Option R) → Nat → Option Addr → Nat → Nat → Option Addr → Nat → Nat → Int → Int → Int → Int → Bool → Int → Int → Int → Option Addr → Int → Heap → Option R) (n : Nat) (vals : List Value) (H : Heap) (K : Xit → Env → Heap → Option R) : Option R :=
  match vals with
  | [.slice q676 l677 c678, .slice q679 l680 c681, .int .i64 n682, .int .i64 n683, .int .i64 n684, .int .i64 n685, .bool t686, .int .i64 n687, .int .i64 n688, .int .i64 n689, .pointer p690, .int .i64 n691] => f (fun q1435 l1436 c1437 q1438 l1439 c1440 n1441 n1442 n1443 n1444 t1445 n1446 n1447 => K (.exit 4) [(0, .slice q1435 l1436 c1437), (1, .slice q1438 l1439 c1440), (2, .int .i64 n1441), (3, .int .i64 n1442), (4, .int .i64 n1443), (5, .int .i64 n1444), (6, .bool t1445), (15, .int .i64 n1446), (16, .int .i64 n1447)] H) (fun t1448 => K .ret [(14, .bool t1448)] H) n q676 l677 c678 q679 l680 c681 n682 n683 n684 n685 t686 n687 n688 n689 p690 n691 H
  | _ => none
def L_grown_a4 (R : Type) (k n : Nat) (vals : List Value) (H : Heap) (K : Xit → Env → Heap → Option R) : Option R := L_grown_aa4 (L_grown_l4 k) n vals H K
def L_grown_aa5 {R : Type} (f : Option Addr → Nat → Nat → Option Addr → Nat → Nat → Int → Int → Int → Int → Bool → Int → Int → Int → Option Addr → Int → Heap → (Option Addr → Nat → Nat → Option Addr → Nat → Nat → Int → Int → Int → Int → Bool → Int → Int → Int → Option Addr → Int → Option R) → (Bool → Option R) → Option R) (n : Nat) (vals : List Value) (H : Heap) (K : Xit → Env → Heap → Option R) : Option R :=
  match vals with
  | [.slice q692 l693 c694, .slice q695 l696 c697, .int .i64 n698, .int .i64 n699, .int .i64 n700, .int .i64 n701, .bool t702, .int .i64 n703, .int .i64 n704, .int .i64 n705, .pointer p706, .int .i64 n707] => f q692 l693 c694 q695 l696 c697 n698 n699 n700 n701 t702 n703 n704 n705 p706 n707 H (fun q1449 l1450 c1451 q1452 l1453 c1454 n1455 n1456 n1457 n1458 t1459 n1460 n1461 n1462 p1463 n1464 => K .normal [(0, .slice q1449 l1450 c1451), (1, .slice q1452 l1453 c1454), (2, .int .i64 n1455), (3, .int .i64 n1456), (4, .int .i64 n1457), (5, .int .i64 n1458), (6, .bool t1459), (15, .int .i64 n1460), (16, .int .i64 n1461), (17, .int .i64 n1462), (21, .pointer p1463), (22, .int .i64 n1464)] H) (fun t1465 => K .ret [(14, .bool t1465)] H)
  | _ => none
def L_grown_a5 (R : Type) (k n : Nat) (vals : List Value) (H : Heap) (K : Xit → Env → Heap → Option R) : Option R := L_grown_aa5 (L_grown_p5 k) n vals H K
def L_grown_Jt {R : Type} (k : Nat) (L_grown_l0 : (Heap → Option R) → (Bool → Heap → Option R) → Nat → Option Addr → Nat → Nat → Option Addr → Nat → Nat → Int → Int → Int → Int → Bool → Int → Heap → Option R) (L_grown_l1 : (Option Addr → Nat → Nat → Option Addr → Nat → Nat → Int → Int → Int → Int → Bool → Int → Heap → Option R) → (Bool → Heap → Option R) → Nat → Option Addr → Nat → Nat → Option Addr → Nat → Nat → Int → Int → Int → Int → Bool → Int → Int → Heap → Option R) (L_grown_p2 : Option Addr → Nat → Nat → Option Addr → Nat → Nat → Int → Int → Int → Int → Bool → Int → Int → Int → Int → Int → (Option Addr → Nat → Nat → Option Addr → Nat → Nat → Int → Int → Int → Int → Bool → Int → Int → Int → Int → Int → Bool → Option R) → Option R) (L_grown_p3 : Option Addr → Nat → Nat → Option Addr → Nat → Nat → Int → Int → Int → Int → Bool → Int → Int → Int → Int → Int → Bool → Heap → (Option Addr → Nat → Nat → Option Addr → Nat → Nat → Int → Int → Int → Int → Bool → Int → Int → Int → Option Addr → Heap → Option R) → Option R) (L_grown_l4 : (Option Addr → Nat → Nat → Option Addr → Nat → Nat → Int → Int → Int → Int → Bool → Int → Int → Option R) → (Bool → Option R) → Nat → Option Addr → Nat → Nat → Option Addr → Nat → Nat → Int → Int → Int → Int → Bool → Int → Int → Int → Option Addr → Int → Heap → Option R) (L_grown_p5 : Option Addr → Nat → Nat → Option Addr → Nat → Nat → Int → Int → Int → Int → Bool → Int → Int → Int → Option Addr → Int → Heap → (Option Addr → Nat → Nat → Option Addr → Nat → Nat → Int → Int → Int → Int → Bool → Int → Int → Int → Option Addr → Int → Option R) → (Bool → Option R) → Option R) : JTab R := tcons 0 (L_grown_aa0 L_grown_l0 k) <| tcons 1 (L_grown_aa1 L_grown_l1 k) <| tcons 2 (L_grown_aa2 L_grown_p2 k) <| tcons 3 (L_grown_aa3 L_grown_p3 k) <| tcons 4 (L_grown_aa4 L_grown_l4 k) <| tcons 5 (L_grown_aa5 L_grown_p5 k) <| fun _ _ _ _ => none
def L_grown_J (R : Type) (k : Nat) : JTab R := L_grown_Jt k (L_grown_l0 k) (L_grown_l1 k) (L_grown_p2 k) (L_grown_p3 k) (L_grown_l4 k) (L_grown_p5 k)
def L_grown_at : AT := (.seq (.reg [0, 1, 2, 3, 4, 5, 6] []) (.seq (.seq (.reg [0, 1, 2, 3, 4, 5, 6, 15] []) (.node (.opq 0 [0, 1, 2, 3, 4, 5, 6, 15] ⟨[], [(0, [])], [14]⟩ (.node (.seq (.seq (.reg [0, 1, 2, 3, 4, 5, 6, 15, 26] []) (.cond .leaf .leaf)) (.seq (.node (.seq (.reg [0, 1, 2, 3, 4, 5, 6, 15, 16] []) (.node (.opq 1 [0, 1, 2, 3, 4, 5, 6, 15, 16] ⟨[], [(2, [0, 1, 2, 3, 4, 5, 6, 15])], [14]⟩ (.node (.seq (.seq (.reg [0, 1, 2, 3, 4, 5, 6, 15, 16, 31] []) (.cond .leaf .leaf)) (.seq (.node (.seq (.reg [0, 1, 2, 3, 4, 5, 6, 15, 16, 17] []) (.seq (.reg [0, 1, 2, 3, 4, 5, 6, 15, 16, 17, 18, 19] []) (.seq (.opq 2 [0, 1, 2, 3, 4, 5, 6, 15, 16, 17, 18, 19] ⟨[0, 1, 2, 3, 4, 5, 6, 15, 16, 17, 18, 19, 20], [], []⟩ (.reg [0, 1, 2, 3, 4, 5, 6, 15, 16, 17, 18, 19, 20] [])) (.seq (.opq 3 [0, 1, 2, 3, 4, 5, 6, 15, 16, 17, 18, 19, 20] ⟨[0, 1, 2, 3, 4, 5, 6, 15, 16, 17, 21], [], []⟩ (.reg [0, 1, 2, 3, 4, 5, 6, 15, 16, 17, 21] [])) (.seq (.reg [0, 1, 2, 3, 4, 5, 6, 15, 16, 17, 21, 22] []) (.node (.opq 4 [0, 1, 2, 3, 4, 5, 6, 15, 16, 17, 21, 22] ⟨[], [(4, [0, 1, 2, 3, 4, 5, 6, 15, 16])], [14]⟩ (.node (.seq (.seq (.reg [0, 1, 2, 3, 4, 5, 6, 15, 16, 17, 21, 22, 100] []) (.cond .leaf .leaf)) (.seq (.opq 5 [0, 1, 2, 3, 4, 5, 6, 15, 16, 17, 21, 22] ⟨[0, 1, 2, 3, 4, 5, 6, 15, 16, 17, 21, 22], [], [14]⟩ (.node (.seq (.reg [0, 1, 2, 3, 4, 5, 6, 15, 16, 17, 21, 22, 23] [[], [], [], [1, 2], [0, 1, 2, 3], [0, 1, 2, 3, 4], [], [], [], [7, 8], [6, 7, 8, 9], [6, 7, 8, 9, 10], [0, 1, 2, 3, 4, 5, 6, 7, 8, 9, 10, 11], [0, 1, 2, 3, 4, 5, 6, 7, 8, 9, 10, 11, 12]]) (.seq (.reg [0, 1, 2, 3, 4, 5, 6, 15, 16, 17, 21, 22, 129] []) (.cond (.seq (.reg [14] []) .leaf) .leaf))))) (.reg [0, 1, 2, 3, 4, 5, 6, 15, 16, 17, 21, 22] [])))))))))))) (.reg [0, 1, 2, 3, 4, 5, 6, 15, 16] [])))))))) (.reg [0, 1, 2, 3, 4, 5, 6, 15] []))))))) (.seq (.reg [14] []) .leaf)))
def L_grown_i5 : IC := (.block 5 (.seq (.reg [⟨some 103, .mov (.t 1), none⟩,
 ⟨some 104, .mov (.t 17), none⟩,
 ⟨some 105, .mov (.t 22), none⟩,
 ⟨some 106, .bin .add .i64 (.t 104) (.t 105), none⟩,
 ⟨some 107, .ids 1 (.t 103) (.t 106), none⟩,
 ⟨some 108, .ld (.sc (.int .i64)) (.t 107), none⟩,
 ⟨some 109, .mov (.t 0), none⟩,
 ⟨some 110, .mov (.t 17), none⟩,
 ⟨some 111, .mov (.t 22), none⟩,
 ⟨some 112, .bin .add .i64 (.t 110) (.t 111), none⟩,
 ⟨some 113, .ids 1 (.t 109) (.t 112), none⟩,
 ⟨some 114, .ld (.sc (.int .i64)) (.t 113), none⟩,
 ⟨some 115, .bin .sub .i64 (.t 108) (.t 114), none⟩,
 ⟨some 23, .mov (.t 115), none⟩] [0, 1, 2, 3, 4, 5, 6, 15, 16, 17, 21, 22, 23]) (.seq (.reg [⟨some 116, .mov (.t 23), none⟩,
 ⟨some 117, .cmp .neq (.t 116) (.c (Go.Value.int Go.IntKind.i64 0)), none⟩,
 ⟨some 118, .mov (.t 117), none⟩,
 ⟨some 119, .mov (.t 23), some (118, true)⟩,
 ⟨some 120, .cmp .neq (.t 119) (.c (Go.Value.int Go.IntKind.i64 1)), some (118, true)⟩,
 ⟨some 121, .pick (.t 118) (.t 120) (.c (Go.Value.bool false)), none⟩,
 ⟨some 122, .mov (.t 121), none⟩,
 ⟨some 123, .mov (.t 23), some (122, false)⟩,
 ⟨some 124, .cmp .eql (.t 123) (.c (Go.Value.int Go.IntKind.i64 1)), some (122, false)⟩,
 ⟨some 125, .mov (.t 22), some (122, false)⟩,
 ⟨some 126, .ida 3 1 (.t 21) (.t 125), some (122, false)⟩,
 ⟨some 127, .ld (.sc .bool) (.t 126), some (122, false)⟩,
 ⟨some 128, .eqb (.t 124) (.t 127) true, some (122, false)⟩,
 ⟨some 129, .pick (.t 122) (.c (Go.Value.bool true)) (.t 128), none⟩] [0, 1, 2, 3, 4, 5, 6, 15, 16, 17, 21, 22, 129]) (.cond (.t 129) (.seq (.reg [⟨some 14, .mov (.c (Go.Value.bool false)), none⟩] [14]) .ret) .skip))))
def L_grown_i4 : IC := (.seq (.seq (.reg [⟨some 99, .mov (.t 22), none⟩,
 ⟨some 100, .cmp .lss (.t 99) (.c (Go.Value.int Go.IntKind.i64 3)), none⟩] [0, 1, 2, 3, 4, 5, 6, 15, 16, 17, 21, 22, 100]) (.cond (.t 100) .skip (.exit 4))) (.seq (.opq 5 [0, 1, 2, 3, 4, 5, 6, 15, 16, 17, 21, 22] L_grown_i5) (.reg [⟨some 101, .mov (.t 22), none⟩,
 ⟨some 102, .bin .add .i64 (.t 101) (.c (Go.Value.int Go.IntKind.i64 1)), none⟩,
 ⟨some 22, .mov (.t 102), none⟩] [0, 1, 2, 3, 4, 5, 6, 15, 16, 17, 21, 22])))
def L_grown_i3 : IC := (.reg [⟨some 81, .mov (.t 20), none⟩,
 ⟨some 82, .mov (.t 81), none⟩,
 ⟨some 83, .mov (.t 19), some (82, true)⟩,
 ⟨some 84, .cmp .eql (.t 83) (.c (Go.Value.int Go.IntKind.i64 0)), some (82, true)⟩,
 ⟨some 85, .pick (.t 82) (.t 84) (.c (Go.Value.bool false)), none⟩,
 ⟨some 86, .mov (.t 20), none⟩,
 ⟨some 87, .mov (.t 86), none⟩,
 ⟨some 88, .mov (.t 18), some (87, true)⟩,
 ⟨some 89, .cmp .eql (.t 88) (.c (Go.Value.int Go.IntKind.i64 0)), some (87, true)⟩,
 ⟨some 90, .pick (.t 87) (.t 89) (.c (Go.Value.bool false)), none⟩,
 ⟨some 91, .mov (.t 20), none⟩,
 ⟨some 92, .mov (.t 91), none⟩,
 ⟨some 93, .mov (.t 18), some (92, true)⟩,
 ⟨some 94, .mov (.t 19), some (92, true)⟩,
 ⟨some 95, .bin .add .i64 (.t 93) (.t 94), some (92, true)⟩,
 ⟨some 96, .cmp .eql (.t 95) (.c (Go.Value.int Go.IntKind.i64 2)), some (92, true)⟩,
 ⟨some 97, .pick (.t 92) (.t 96) (.c (Go.Value.bool false)), none⟩,
 ⟨some 98, .bld [.bool false, .bool false, .bool false] [(0, 1, (.t 85)), (1, 1, (.t 90)), (2, 1, (.t 97))], none⟩,
 ⟨some 21, .alc [.bool false, .bool false, .bool false], none⟩,
 ⟨none, .st 3 (.t 21) (.t 98), none⟩] [0, 1, 2, 3, 4, 5, 6, 15, 16, 17, 21])
def L_grown_i2 : IC := (.reg [⟨some 54, .mov (.t 18), none⟩,
 ⟨some 55, .cmp .leq (.t 54) (.c (Go.Value.int Go.IntKind.i64 1)), none⟩,
 ⟨some 56, .mov (.t 55), none⟩,
 ⟨some 57, .mov (.t 19), some (56, true)⟩,
 ⟨some 58, .cmp .leq (.t 57) (.c (Go.Value.int Go.IntKind.i64 1)), some (56, true)⟩,
 ⟨some 59, .pick (.t 56) (.t 58) (.c (Go.Value.bool false)), none⟩,
 ⟨some 60, .mov (.t 59), none⟩,
 ⟨some 61, .mov (.t 18), some (60, true)⟩,
 ⟨some 62, .mov (.t 19), some (60, true)⟩,
 ⟨some 63, .bin .add .i64 (.t 61) (.t 62), some (60, true)⟩,
 ⟨some 64, .cmp .gtr (.t 63) (.c (Go.Value.int Go.IntKind.i64 0)), some (60, true)⟩,
 ⟨some 65, .pick (.t 60) (.t 64) (.c (Go.Value.bool false)), none⟩,
 ⟨some 66, .mov (.t 65), none⟩,
 ⟨some 67, .mov (.t 6), some (66, true)⟩,
 ⟨some 68, .mov (.t 67), some (66, true)⟩,
 ⟨some 69, .mov (.t 5), some (68, true)⟩,
 ⟨some 70, .mov (.t 15), some (68, true)⟩,
 ⟨some 71, .bin .add .i64 (.t 70) (.c (Go.Value.int Go.IntKind.i64 1)), some (68, true)⟩,
 ⟨some 72, .cmp .eql (.t 69) (.t 71), some (68, true)⟩,
 ⟨some 73, .pick (.t 68) (.t 72) (.c (Go.Value.bool false)), some (66, true)⟩,
 ⟨some 74, .mov (.t 73), some (66, true)⟩,
 ⟨some 75, .mov (.t 15), some (74, true)⟩,
 ⟨some 76, .bin .rem .i64 (.t 75) (.c (Go.Value.int Go.IntKind.i64 4)), some (74, true)⟩,
 ⟨some 77, .cmp .eql (.t 76) (.c (Go.Value.int Go.IntKind.i64 3)), some (74, true)⟩,
 ⟨some 78, .pick (.t 74) (.t 77) (.c (Go.Value.bool false)), some (66, true)⟩,
 ⟨some 79, .lnot (.t 78), some (66, true)⟩,
 ⟨some 80, .pick (.t 66) (.t 79) (.c (Go.Value.bool false)), none⟩,
 ⟨some 20, .mov (.t 80), none⟩] [0, 1, 2, 3, 4, 5, 6, 15, 16, 17, 18, 19, 20])
def L_grown_i1 : IC := (.seq (.seq (.reg [⟨some 29, .mov (.t 16), none⟩,
 ⟨some 30, .mov (.t 2), none⟩,
 ⟨some 31, .cmp .lss (.t 29) (.t 30), none⟩] [0, 1, 2, 3, 4, 5, 6, 15, 16, 31]) (.cond (.t 31) .skip (.exit 2))) (.seq (.block 3 (.seq (.reg [⟨some 34, .mov (.t 15), none⟩,
 ⟨some 35, .mov (.t 2), none⟩,
 ⟨some 36, .bin .mul .i64 (.t 34) (.t 35), none⟩,
 ⟨some 37, .mov (.t 16), none⟩,
 ⟨some 38, .bin .add .i64 (.t 36) (.t 37), none⟩,
 ⟨some 39, .bin .mul .i64 (.c (Go.Value.int Go.IntKind.i64 3)) (.t 38), none⟩,
 ⟨some 17, .mov (.t 39), none⟩] [0, 1, 2, 3, 4, 5, 6, 15, 16, 17]) (.seq (.reg [⟨some 40, .mov (.t 16), none⟩,
 ⟨some 41, .mov (.t 4), none⟩,
 ⟨some 42, .bin .sub .i64 (.t 40) (.t 41), none⟩,
 ⟨some 43, .mov (.t 4), none⟩,
 ⟨some 44, .mov (.t 16), none⟩,
 ⟨some 45, .bin .sub .i64 (.t 43) (.t 44), none⟩,
 ⟨some 46, .mx (.t 42) (.t 45), none⟩,
 ⟨some 47, .mov (.t 15), none⟩,
 ⟨some 48, .mov (.t 5), none⟩,
 ⟨some 49, .bin .sub .i64 (.t 47) (.t 48), none⟩,
 ⟨some 50, .mov (.t 5), none⟩,
 ⟨some 51, .mov (.t 15), none⟩,
 ⟨some 52, .bin .sub .i64 (.t 50) (.t 51), none⟩,
 ⟨some 53, .mx (.t 49) (.t 52), none⟩,
 ⟨some 18, .mov (.t 46), none⟩,
 ⟨some 19, .mov (.t 53), none⟩] [0, 1, 2, 3, 4, 5, 6, 15, 16, 17, 18, 19]) (.seq (.opq 2 [0, 1, 2, 3, 4, 5, 6, 15, 16, 17, 18, 19] L_grown_i2) (.seq (.opq 3 [0, 1, 2, 3, 4, 5, 6, 15, 16, 17, 18, 19, 20] L_grown_i3) (.seq (.reg [⟨some 22, .mov (.c (Go.Value.int Go.IntKind.i64 0)), none⟩] [0, 1, 2, 3, 4, 5, 6, 15, 16, 17, 21, 22]) (.block 4 (.opq 4 [0, 1, 2, 3, 4, 5, 6, 15, 16, 17, 21, 22] (.loop L_grown_i4))))))))) (.reg [⟨some 32, .mov (.t 16), none⟩,
 ⟨some 33, .bin .add .i64 (.t 32) (.c (Go.Value.int Go.IntKind.i64 1)), none⟩,
 ⟨some 16, .mov (.t 33), none⟩] [0, 1, 2, 3, 4, 5, 6, 15, 16])))
def L_grown_i0 : IC := (.seq (.seq (.reg [⟨some 24, .mov (.t 15), none⟩,
 ⟨some 25, .mov (.t 3), none⟩,
 ⟨some 26, .cmp .lss (.t 24) (.t 25), none⟩] [0, 1, 2, 3, 4, 5, 6, 15, 26]) (.cond (.t 26) .skip (.exit 0))) (.seq (.block 1 (.seq (.reg [⟨some 16, .mov (.c (Go.Value.int Go.IntKind.i64 0)), none⟩] [0, 1, 2, 3, 4, 5, 6, 15, 16]) (.block 2 (.opq 1 [0, 1, 2, 3, 4, 5, 6, 15, 16] (.loop L_grown_i1))))) (.reg [⟨some 27, .mov (.t 15), none⟩,
 ⟨some 28, .bin .add .i64 (.t 27) (.c (Go.Value.int Go.IntKind.i64 1)), none⟩,
 ⟨some 15, .mov (.t 28), none⟩] [0, 1, 2, 3, 4, 5, 6, 15])))
def L_grown_f : IFn := ⟨130, [.t 14], (.seq (.reg [⟨some 14, .mov (.c (Go.Value.bool false)), none⟩] [0, 1, 2, 3, 4, 5, 6]) (.seq (.seq (.reg [⟨some 15, .mov (.c (Go.Value.int Go.IntKind.i64 0)), none⟩] [0, 1, 2, 3, 4, 5, 6, 15]) (.block 0 (.opq 0 [0, 1, 2, 3, 4, 5, 6, 15] (.loop L_grown_i0)))) (.seq (.reg [⟨some 14, .mov (.c (Go.Value.bool true)), none⟩] [14]) .ret)))⟩
theorem L_grown_e5 {R : Type} (L_grown_l0 : (Heap → Option R) → (Bool → Heap → Option R) → Nat → Option Addr → Nat → Nat → Option Addr → Nat → Nat → Int → Int → Int → Int → Bool → Int → Heap → Option R) (L_grown_l1 : (Option Addr → Nat → Nat → Option Addr → Nat → Nat → Int → Int → Int → Int → Bool → Int → Heap → Option R) → (Bool → Heap → Option R) → Nat → Option Addr → Nat → Nat → Option Addr → Nat → Nat → Int → Int → Int → Int → Bool → Int → Int → Heap → Option R) (L_grown_p2 : Option Addr → Nat → Nat → Option Addr → Nat → Nat → Int → Int → Int → Int → Bool → Int → Int → Int → Int → Int → (Option Addr → Nat → Nat → Option Addr → Nat → Nat → Int → Int → Int → Int → Bool → Int → Int → Int → Int → Int → Bool → Option R) → Option R) (L_grown_p3 : Option Addr → Nat → Nat → Option Addr → Nat → Nat → Int → Int → Int → Int → Bool → Int → Int → Int → Int → Int → Bool → Heap → (Option Addr → Nat → Nat → Option Addr → Nat → Nat → Int → Int → Int → Int → Bool → Int → Int → Int → Option Addr → Heap → Option R) → Option R) (L_grown_l4 : (Option Addr → Nat → Nat → Option Addr → Nat → Nat → Int → Int → Int → Int → Bool → Int → Int → Option R) → (Bool → Option R) → Nat → Option Addr → Nat → Nat → Option Addr → Nat → Nat → Int → Int → Int → Int → Bool → Int → Int → Int → Option Addr → Int → Heap → Option R) (L_grown_p5 : Option Addr → Nat → Nat → Option Addr → Nat → Nat → Int → Int → Int → Int → Bool → Int → Int → Int → Option Addr → Int → Heap → (Option Addr → Nat → Nat → Option Addr → Nat → Nat → Int → Int → Int → Int → Bool → Int → Int → Int → Option Addr → Int → Option R) → (Bool → Option R) → Option R) (k : Nat) (q692 : Option Addr) (l693 : Nat) (c694 : Nat) (q695 : Option Addr) (l696 : Nat) (c697 : Nat) (n698 : Int) (n699 : Int) (n700 : Int) (n701 : Int) (t702 : Bool) (n703 : Int) (n704 : Int) (n705 : Int) (p706 : Option Addr) (n707 : Int) (H : Heap) (K : Xit → Env → Heap → Option R) : evJ (L_grown_Ct) (L_grown_Jt k L_grown_l0 L_grown_l1 L_grown_p2 L_grown_p3 L_grown_l4 L_grown_p5) L_grown_i5 (List.zip [0, 1, 2, 3, 4, 5, 6, 15, 16, 17, 21, 22] [.slice q692 l693 c694, .slice q695 l696 c697, .int .i64 n698, .int .i64 n699, .int .i64 n700, .int .i64 n701, .bool t702, .int .i64 n703, .int .i64 n704, .int .i64 n705, .pointer p706, .int .i64 n707]) H (fun x e' H' => K x (clean e' ((⟨[0, 1, 2, 3, 4, 5, 6, 15, 16, 17, 21, 22], [], [14]⟩ : Out).of x)) H') = L_grown_p5_b k q692 l693 c694 q695 l696 c697 n698 n699 n700 n701 t702 n703 n704 n705 p706 n707 H (fun q1449 l1450 c1451 q1452 l1453 c1454 n1455 n1456 n1457 n1458 t1459 n1460 n1461 n1462 p1463 n1464 => K .normal [(0, .slice q1449 l1450 c1451), (1, .slice q1452 l1453 c1454), (2, .int .i64 n1455), (3, .int .i64 n1456), (4, .int .i64 n1457), (5, .int .i64 n1458), (6, .bool t1459), (15, .int .i64 n1460), (16, .int .i64 n1461), (17, .int .i64 n1462), (21, .pointer p1463), (22, .int .i64 n1464)] H) (fun t1465 => K .ret [(14, .bool t1465)] H) := by kernel_rfl
theorem L_grown_j5 {R : Type} (k : Nat) : JS Try.prog 130 (L_grown_a5 R k k) [0, 1, 2, 3, 4, 5, 6, 15, 16, 17, 21, 22] ⟨[0, 1, 2, 3, 4, 5, 6, 15, 16, 17, 21, 22], [], [14]⟩ (sel [1, 0, 1, 0, 0, 1, 0, 0, 1, 0, 0, 1, 0, 0, 1, 1, 1, 1, 1, 0, 0, 1, 0] (Try.f28.body.getD .skip)) :=
  piece_ok (nt := 130) (c := (sel [1, 0, 1, 0, 0, 1, 0, 0, 1, 0, 0, 1, 0, 0, 1, 1, 1, 1, 1, 0, 0, 1, 0] (Try.f28.body.getD .skip))) (C := L_grown_C R k) (an := An) (t := (.node (.seq (.reg [0, 1, 2, 3, 4, 5, 6, 15, 16, 17, 21, 22, 23] [[], [], [], [1, 2], [0, 1, 2, 3], [0, 1, 2, 3, 4], [], [], [], [7, 8], [6, 7, 8, 9], [6, 7, 8, 9, 10], [0, 1, 2, 3, 4, 5, 6, 7, 8, 9, 10, 11], [0, 1, 2, 3, 4, 5, 6, 7, 8, 9, 10, 11, 12]]) (.seq (.reg [0, 1, 2, 3, 4, 5, 6, 15, 16, 17, 21, 22, 129] []) (.cond (.seq (.reg [14] []) .leaf) .leaf))))) (ic := L_grown_i5) (L_grown_S R k) (L_grown_J R k) (by kernel_rfl) (And.intro True.intro (And.intro True.intro (And.intro (And.intro True.intro True.intro) True.intro))) (L_grown_a5 R k k)
    (fun vals H K r h => by
      unfold L_grown_a5 L_grown_aa5 at h
      split at h <;> first | (cases h; done) | exact Eq.trans (L_grown_e5 (L_grown_l0 k) (L_grown_l1 k) (L_grown_p2 k) (L_grown_p3 k) (L_grown_l4 k) (L_grown_p5 k) k _ _ _ _ _ _ _ _ _ _ _ _ _ _ _ _ H K) h)
theorem L_grown_e4 {R : Type} (L_grown_l0 : (Heap → Option R) → (Bool → Heap → Option R) → Nat → Option Addr → Nat → Nat → Option Addr → Nat → Nat → Int → Int → Int → Int → Bool → Int → Heap → Option R) (L_grown_l1 : (Option Addr → Nat → Nat → Option Addr → Nat → Nat → Int → Int → Int → Int → Bool → Int → Heap → Option R) → (Bool → Heap → Option R) → Nat → Option Addr → Nat → Nat → Option Addr → Nat → Nat → Int → Int → Int → Int → Bool → Int → Int → Heap → Option R) (L_grown_p2 : Option Addr → Nat → Nat → Option Addr → Nat → Nat → Int → Int → Int → Int → Bool → Int → Int → Int → Int → Int → (Option Addr → Nat → Nat → Option Addr → Nat → Nat → Int → Int → Int → Int → Bool → Int → Int → Int → Int → Int → Bool → Option R) → Option R) (L_grown_p3 : Option Addr → Nat → Nat → Option Addr → Nat → Nat → Int → Int → Int → Int → Bool → Int → Int → Int → Int → Int → Bool → Heap → (Option Addr → Nat → Nat → Option Addr → Nat → Nat → Int → Int → Int → Int → Bool → Int → Int → Int → Option Addr → Heap → Option R) → Option R) (L_grown_l4 : (Option Addr → Nat → Nat → Option Addr → Nat → Nat → Int → Int → Int → Int → Bool → Int → Int → Option R) → (Bool → Option R) → Nat → Option Addr → Nat → Nat → Option Addr → Nat → Nat → Int → Int → Int → Int → Bool → Int → Int → Int → Option Addr → Int → Heap → Option R) (L_grown_p5 : Option Addr → Nat → Nat → Option Addr → Nat → Nat → Int → Int → Int → Int → Bool → Int → Int → Int → Option Addr → Int → Heap → (Option Addr → Nat → Nat → Option Addr → Nat → Nat → Int → Int → Int → Int → Bool → Int → Int → Int → Option Addr → Int → Option R) → (Bool → Option R) → Option R) (k n : Nat) (q676 : Option Addr) (l677 : Nat) (c678 : Nat) (q679 : Option Addr) (l680 : Nat) (c681 : Nat) (n682 : Int) (n683 : Int) (n684 : Int) (n685 : Int) (t686 : Bool) (n687 : Int) (n688 : Int) (n689 : Int) (p690 : Option Addr) (n691 : Int) (H : Heap) (K : Xit → Env → Heap → Option R) : evJ (L_grown_Ct) (L_grown_Jt k L_grown_l0 L_grown_l1 L_grown_p2 L_grown_p3 L_grown_l4 L_grown_p5) L_grown_i4 (List.zip [0, 1, 2, 3, 4, 5, 6, 15, 16, 17, 21, 22] [.slice q676 l677 c678, .slice q679 l680 c681, .int .i64 n682, .int .i64 n683, .int .i64 n684, .int .i64 n685, .bool t686, .int .i64 n687, .int .i64 n688, .int .i64 n689, .pointer p690, .int .i64 n691]) H (fun x e' H' => match x with | .normal => L_grown_aa4 L_grown_l4 n ((clean e' [0, 1, 2, 3, 4, 5, 6, 15, 16, 17, 21, 22]).map (·.2)) H' K | x => K x (clean e' ((⟨[], [(4, [0, 1, 2, 3, 4, 5, 6, 15, 16])], [14]⟩ : Out).of x)) H') = L_grown_l4_b L_grown_p5 (L_grown_l4 (fun q1435 l1436 c1437 q1438 l1439 c1440 n1441 n1442 n1443 n1444 t1445 n1446 n1447 => K (.exit 4) [(0, .slice q1435 l1436 c1437), (1, .slice q1438 l1439 c1440), (2, .int .i64 n1441), (3, .int .i64 n1442), (4, .int .i64 n1443), (5, .int .i64 n1444), (6, .bool t1445), (15, .int .i64 n1446), (16, .int .i64 n1447)] H) (fun t1448 => K .ret [(14, .bool t1448)] H) n) (fun q1435 l1436 c1437 q1438 l1439 c1440 n1441 n1442 n1443 n1444 t1445 n1446 n1447 => K (.exit 4) [(0, .slice q1435 l1436 c1437), (1, .slice q1438 l1439 c1440), (2, .int .i64 n1441), (3, .int .i64 n1442), (4, .int .i64 n1443), (5, .int .i64 n1444), (6, .bool t1445), (15, .int .i64 n1446), (16, .int .i64 n1447)] H) (fun t1448 => K .ret [(14, .bool t1448)] H) k q676 l677 c678 q679 l680 c681 n682 n683 n684 n685 t686 n687 n688 n689 p690 n691 H := by kernel_rfl
theorem L_grown_j4 {R : Type} (k : Nat) : JS Try.prog 130 (L_grown_a4 R k k) [0, 1, 2, 3, 4, 5, 6, 15, 16, 17, 21, 22] ⟨[], [(4, [0, 1, 2, 3, 4, 5, 6, 15, 16])], [14]⟩ (.loop (sel [1, 0, 1, 0, 0, 1, 0, 0, 1, 0, 0, 1, 0, 0, 1, 1, 1, 1, 1, 0, 0] (Try.f28.body.getD .skip))) :=
  loop_ok (nt := 130) (c := (sel [1, 0, 1, 0, 0, 1, 0, 0, 1, 0, 0, 1, 0, 0, 1, 1, 1, 1, 1, 0, 0] (Try.f28.body.getD .skip))) (C := L_grown_C R k) (an := An) (t := (.seq (.seq (.reg [0, 1, 2, 3, 4, 5, 6, 15, 16, 17, 21, 22, 100] []) (.cond .leaf .leaf)) (.seq (.opq 5 [0, 1, 2, 3, 4, 5, 6, 15, 16, 17, 21, 22] ⟨[0, 1, 2, 3, 4, 5, 6, 15, 16, 17, 21, 22], [], [14]⟩ (.node (.seq (.reg [0, 1, 2, 3, 4, 5, 6, 15, 16, 17, 21, 22, 23] [[], [], [], [1, 2], [0, 1, 2, 3], [0, 1, 2, 3, 4], [], [], [], [7, 8], [6, 7, 8, 9], [6, 7, 8, 9, 10], [0, 1, 2, 3, 4, 5, 6, 7, 8, 9, 10, 11], [0, 1, 2, 3, 4, 5, 6, 7, 8, 9, 10, 11, 12]]) (.seq (.reg [0, 1, 2, 3, 4, 5, 6, 15, 16, 17, 21, 22, 129] []) (.cond (.seq (.reg [14] []) .leaf) .leaf))))) (.reg [0, 1, 2, 3, 4, 5, 6, 15, 16, 17, 21, 22] [])))) (ic := L_grown_i4) (L_grown_S R k) (L_grown_J R k) (by kernel_rfl) (And.intro (And.intro True.intro (And.intro True.intro True.intro)) (And.intro (L_grown_j5 k) True.intro)) (L_grown_a4 R k) (fun vals H K => by unfold L_grown_a4 L_grown_aa4; split <;> rfl)
    (fun n vals H K r h => by
      unfold L_grown_a4 L_grown_aa4 at h
      split at h <;> first | (cases h; done) | exact Eq.trans (L_grown_e4 (L_grown_l0 k) (L_grown_l1 k) (L_grown_p2 k) (L_grown_p3 k) (L_grown_l4 k) (L_grown_p5 k) k n _ _ _ _ _ _ _ _ _ _ _ _ _ _ _ _ H K) h) k
theorem L_grown_e3 {R : Type} (L_grown_l0 : (Heap → Option R) → (Bool → Heap → Option R) → Nat → Option Addr → Nat → Nat → Option Addr → Nat → Nat → Int → Int → Int → Int → Bool → Int → Heap → Option R) (L_grown_l1 : (Option Addr → Nat → Nat → Option Addr → Nat → Nat → Int → Int → Int → Int → Bool → Int → Heap → Option R) → (Bool → Heap → Option R) → Nat → Option Addr → Nat → Nat → Option Addr → Nat → Nat → Int → Int → Int → Int → Bool → Int → Int → Heap → Option R) (L_grown_p2 : Option Addr → Nat → Nat → Option Addr → Nat → Nat → Int → Int → Int → Int → Bool → Int → Int → Int → Int → Int → (Option Addr → Nat → Nat → Option Addr → Nat → Nat → Int → Int → Int → Int → Bool → Int → Int → Int → Int → Int → Bool → Option R) → Option R) (L_grown_p3 : Option Addr → Nat → Nat → Option Addr → Nat → Nat → Int → Int → Int → Int → Bool → Int → Int → Int → Int → Int → Bool → Heap → (Option Addr → Nat → Nat → Option Addr → Nat → Nat → Int → Int → Int → Int → Bool → Int → Int → Int → Option Addr → Heap → Option R) → Option R) (L_grown_l4 : (Option Addr → Nat → Nat → Option Addr → Nat → Nat → Int → Int → Int → Int → Bool → Int → Int → Option R) → (Bool → Option R) → Nat → Option Addr → Nat → Nat → Option Addr → Nat → Nat → Int → Int → Int → Int → Bool → Int → Int → Int → Option Addr → Int → Heap → Option R) (L_grown_p5 : Option Addr → Nat → Nat → Option Addr → Nat → Nat → Int → Int → Int → Int → Bool → Int → Int → Int → Option Addr → Int → Heap → (Option Addr → Nat → Nat → Option Addr → Nat → Nat → Int → Int → Int → Int → Bool → Int → Int → Int → Option Addr → Int → Option R) → (Bool → Option R) → Option R) (k : Nat) (q604 : Option Addr) (l605 : Nat) (c606 : Nat) (q607 : Option Addr) (l608 : Nat) (c609 : Nat) (n610 : Int) (n611 : Int) (n612 : Int) (n613 : Int) (t614 : Bool) (n615 : Int) (n616 : Int) (n617 : Int) (n618 : Int) (n619 : Int) (t620 : Bool) (H : Heap) (K : Xit → Env → Heap → Option R) : evJ (L_grown_Ct) (L_grown_Jt k L_grown_l0 L_grown_l1 L_grown_p2 L_grown_p3 L_grown_l4 L_grown_p5) L_grown_i3 (List.zip [0, 1, 2, 3, 4, 5, 6, 15, 16, 17, 18, 19, 20] [.slice q604 l605 c606, .slice q607 l608 c609, .int .i64 n610, .int .i64 n611, .int .i64 n612, .int .i64 n613, .bool t614, .int .i64 n615, .int .i64 n616, .int .i64 n617, .int .i64 n618, .int .i64 n619, .bool t620]) H (fun x e' H' => K x (clean e' ((⟨[0, 1, 2, 3, 4, 5, 6, 15, 16, 17, 21], [], []⟩ : Out).of x)) H') = L_grown_p3_b k q604 l605 c606 q607 l608 c609 n610 n611 n612 n613 t614 n615 n616 n617 n618 n619 t620 H (fun q1420 l1421 c1422 q1423 l1424 c1425 n1426 n1427 n1428 n1429 t1430 n1431 n1432 n1433 p1434 H => K .normal [(0, .slice q1420 l1421 c1422), (1, .slice q1423 l1424 c1425), (2, .int .i64 n1426), (3, .int .i64 n1427), (4, .int .i64 n1428), (5, .int .i64 n1429), (6, .bool t1430), (15, .int .i64 n1431), (16, .int .i64 n1432), (17, .int .i64 n1433), (21, .pointer p1434)] H) := by kernel_rfl
theorem L_grown_j3 {R : Type} (k : Nat) : JS Try.prog 130 (L_grown_a3 R k k) [0, 1, 2, 3, 4, 5, 6, 15, 16, 17, 18, 19, 20] ⟨[0, 1, 2, 3, 4, 5, 6, 15, 16, 17, 21], [], []⟩ (sel [1, 0, 1, 0, 0, 1, 0, 0, 1, 0, 0, 1, 0, 0, 1, 1, 1, 0] (Try.f28.body.getD .skip)) :=
  piece_ok (nt := 130) (c := (sel [1, 0, 1, 0, 0, 1, 0, 0, 1, 0, 0, 1, 0, 0, 1, 1, 1, 0] (Try.f28.body.getD .skip))) (C := L_grown_C R k) (an := An) (t := (.reg [0, 1, 2, 3, 4, 5, 6, 15, 16, 17, 21] [])) (ic := L_grown_i3) (L_grown_S R k) (L_grown_J R k) (by kernel_rfl) True.intro (L_grown_a3 R k k)
    (fun vals H K r h => by
      unfold L_grown_a3 L_grown_aa3 at h
      split at h <;> first | (cases h; done) | exact Eq.trans (L_grown_e3 (L_grown_l0 k) (L_grown_l1 k) (L_grown_p2 k) (L_grown_p3 k) (L_grown_l4 k) (L_grown_p5 k) k _ _ _ _ _ _ _ _ _ _ _ _ _ _ _ _ _ H K) h)
theorem L_grown_e2 {R : Type} (L_grown_l0 : (Heap → Option R) → (Bool → Heap → Option R) → Nat → Option Addr → Nat → Nat → Option Addr → Nat → Nat → Int → Int → Int → Int → Bool → Int → Heap → Option R) (L_grown_l1 : (Option Addr → Nat → Nat → Option Addr → Nat → Nat → Int → Int → Int → Int → Bool → Int → Heap → Option R) → (Bool → Heap → Option R) → Nat → Option Addr → Nat → Nat → Option Addr → Nat → Nat → Int → Int → Int → Int → Bool → Int → Int → Heap → Option R) (L_grown_p2 : Option Addr → Nat → Nat → Option Addr → Nat → Nat → Int → Int → Int → Int → Bool → Int → Int → Int → Int → Int → (Option Addr → Nat → Nat → Option Addr → Nat → Nat → Int → Int → Int → Int → Bool → Int → Int → Int → Int → Int → Bool → Option R) → Option R) (L_grown_p3 : Option Addr → Nat → Nat → Option Addr → Nat → Nat → Int → Int → Int → Int → Bool → Int → Int → Int → Int → Int → Bool → Heap → (Option Addr → Nat → Nat → Option Addr → Nat → Nat → Int → Int → Int → Int → Bool → Int → Int → Int → Option Addr → Heap → Option R) → Option R) (L_grown_l4 : (Option Addr → Nat → Nat → Option Addr → Nat → Nat → Int → Int → Int → Int → Bool → Int → Int → Option R) → (Bool → Option R) → Nat → Option Addr → Nat → Nat → Option Addr → Nat → Nat → Int → Int → Int → Int → Bool → Int → Int → Int → Option Addr → Int → Heap → Option R) (L_grown_p5 : Option Addr → Nat → Nat → Option Addr → Nat → Nat → Int → Int → Int → Int → Bool → Int → Int → Int → Option Addr → Int → Heap → (Option Addr → Nat → Nat → Option Addr → Nat → Nat → Int → Int → Int → Int → Bool → Int → Int → Int → Option Addr → Int → Option R) → (Bool → Option R) → Option R) (k : Nat) (q554 : Option Addr) (l555 : Nat) (c556 : Nat) (q557 : Option Addr) (l558 : Nat) (c559 : Nat) (n560 : Int) (n561 : Int) (n562 : Int) (n563 : Int) (t564 : Bool) (n565 : Int) (n566 : Int) (n567 : Int) (n568 : Int) (n569 : Int) (H : Heap) (K : Xit → Env → Heap → Option R) : evJ (L_grown_Ct) (L_grown_Jt k L_grown_l0 L_grown_l1 L_grown_p2 L_grown_p3 L_grown_l4 L_grown_p5) L_grown_i2 (List.zip [0, 1, 2, 3, 4, 5, 6, 15, 16, 17, 18, 19] [.slice q554 l555 c556, .slice q557 l558 c559, .int .i64 n560, .int .i64 n561, .int .i64 n562, .int .i64 n563, .bool t564, .int .i64 n565, .int .i64 n566, .int .i64 n567, .int .i64 n568, .int .i64 n569]) H (fun x e' H' => K x (clean e' ((⟨[0, 1, 2, 3, 4, 5, 6, 15, 16, 17, 18, 19, 20], [], []⟩ : Out).of x)) H') = L_grown_p2_b k q554 l555 c556 q557 l558 c559 n560 n561 n562 n563 t564 n565 n566 n567 n568 n569 (fun q1403 l1404 c1405 q1406 l1407 c1408 n1409 n1410 n1411 n1412 t1413 n1414 n1415 n1416 n1417 n1418 t1419 => K .normal [(0, .slice q1403 l1404 c1405), (1, .slice q1406 l1407 c1408), (2, .int .i64 n1409), (3, .int .i64 n1410), (4, .int .i64 n1411), (5, .int .i64 n1412), (6, .bool t1413), (15, .int .i64 n1414), (16, .int .i64 n1415), (17, .int .i64 n1416), (18, .int .i64 n1417), (19, .int .i64 n1418), (20, .bool t1419)] H) := by kernel_rfl
theorem L_grown_j2 {R : Type} (k : Nat) : JS Try.prog 130 (L_grown_a2 R k k) [0, 1, 2, 3, 4, 5, 6, 15, 16, 17, 18, 19] ⟨[0, 1, 2, 3, 4, 5, 6, 15, 16, 17, 18, 19, 20], [], []⟩ (sel [1, 0, 1, 0, 0, 1, 0, 0, 1, 0, 0, 1, 0, 0, 1, 1, 0] (Try.f28.body.getD .skip)) :=
  piece_ok (nt := 130) (c := (sel [1, 0, 1, 0, 0, 1, 0, 0, 1, 0, 0, 1, 0, 0, 1, 1, 0] (Try.f28.body.getD .skip))) (C := L_grown_C R k) (an := An) (t := (.reg [0, 1, 2, 3, 4, 5, 6, 15, 16, 17, 18, 19, 20] [])) (ic := L_grown_i2) (L_grown_S R k) (L_grown_J R k) (by kernel_rfl) True.intro (L_grown_a2 R k k)
    (fun vals H K r h => by
      unfold L_grown_a2 L_grown_aa2 at h
      split at h <;> first | (cases h; done) | exact Eq.trans (L_grown_e2 (L_grown_l0 k) (L_grown_l1 k) (L_grown_p2 k) (L_grown_p3 k) (L_grown_l4 k) (L_grown_p5 k) k _ _ _ _ _ _ _ _ _ _ _ _ _ _ _ _ H K) h)
theorem L_grown_e1 {R : Type} (L_grown_l0 : (Heap → Option R) → (Bool → Heap → Option R) → Nat → Option Addr → Nat → Nat → Option Addr → Nat → Nat → Int → Int → Int → Int → Bool → Int → Heap → Option R) (L_grown_l1 : (Option Addr → Nat → Nat → Option Addr → Nat → Nat → Int → Int → Int → Int → Bool → Int → Heap → Option R) → (Bool → Heap → Option R) → Nat → Option Addr → Nat → Nat → Option Addr → Nat → Nat → Int → Int → Int → Int → Bool → Int → Int → Heap → Option R) (L_grown_p2 : Option Addr → Nat → Nat → Option Addr → Nat → Nat → Int → Int → Int → Int → Bool → Int → Int → Int → Int → Int → (Option Addr → Nat → Nat → Option Addr → Nat → Nat → Int → Int → Int → Int → Bool → Int → Int → Int → Int → Int → Bool → Option R) → Option R) (L_grown_p3 : Option Addr → Nat → Nat → Option Addr → Nat → Nat → Int → Int → Int → Int → Bool → Int → Int → Int → Int → Int → Bool → Heap → (Option Addr → Nat → Nat → Option Addr → Nat → Nat → Int → Int → Int → Int → Bool → Int → Int → Int → Option Addr → Heap → Option R) → Option R) (L_grown_l4 : (Option Addr → Nat → Nat → Option Addr → Nat → Nat → Int → Int → Int → Int → Bool → Int → Int → Option R) → (Bool → Option R) → Nat → Option Addr → Nat → Nat → Option Addr → Nat → Nat → Int → Int → Int → Int → Bool → Int → Int → Int → Option Addr → Int → Heap → Option R) (L_grown_p5 : Option Addr → Nat → Nat → Option Addr → Nat → Nat → Int → Int → Int → Int → Bool → Int → Int → Int → Option Addr → Int → Heap → (Option Addr → Nat → Nat → Option Addr → Nat → Nat → Int → Int → Int → Int → Bool → Int → Int → Int → Option Addr → Int → Option R) → (Bool → Option R) → Option R) (k n : Nat) (q541 : Option Addr) (l542 : Nat) (c543 : Nat) (q544 : Option Addr) (l545 : Nat) (c546 : Nat) (n547 : Int) (n548 : Int) (n549 : Int) (n550 : Int) (t551 : Bool) (n552 : Int) (n553 : Int) (H : Heap) (K : Xit → Env → Heap → Option R) : evJ (L_grown_Ct) (L_grown_Jt k L_grown_l0 L_grown_l1 L_grown_p2 L_grown_p3 L_grown_l4 L_grown_p5) L_grown_i1 (List.zip [0, 1, 2, 3, 4, 5, 6, 15, 16] [.slice q541 l542 c543, .slice q544 l545 c546, .int .i64 n547, .int .i64 n548, .int .i64 n549, .int .i64 n550, .bool t551, .int .i64 n552, .int .i64 n553]) H (fun x e' H' => match x with | .normal => L_grown_aa1 L_grown_l1 n ((clean e' [0, 1, 2, 3, 4, 5, 6, 15, 16]).map (·.2)) H' K | x => K x (clean e' ((⟨[], [(2, [0, 1, 2, 3, 4, 5, 6, 15])], [14]⟩ : Out).of x)) H') = L_grown_l1_b L_grown_p2 L_grown_p3 L_grown_l4 (L_grown_l1 (fun q1390 l1391 c1392 q1393 l1394 c1395 n1396 n1397 n1398 n1399 t1400 n1401 H => K (.exit 2) [(0, .slice q1390 l1391 c1392), (1, .slice q1393 l1394 c1395), (2, .int .i64 n1396), (3, .int .i64 n1397), (4, .int .i64 n1398), (5, .int .i64 n1399), (6, .bool t1400), (15, .int .i64 n1401)] H) (fun t1402 H => K .ret [(14, .bool t1402)] H) n) (fun q1390 l1391 c1392 q1393 l1394 c1395 n1396 n1397 n1398 n1399 t1400 n1401 H => K (.exit 2) [(0, .slice q1390 l1391 c1392), (1, .slice q1393 l1394 c1395), (2, .int .i64 n1396), (3, .int .i64 n1397), (4, .int .i64 n1398), (5, .int .i64 n1399), (6, .bool t1400), (15, .int .i64 n1401)] H) (fun t1402 H => K .ret [(14, .bool t1402)] H) k q541 l542 c543 q544 l545 c546 n547 n548 n549 n550 t551 n552 n553 H := by kernel_rfl
theorem L_grown_j1 {R : Type} (k : Nat) : JS Try.prog 130 (L_grown_a1 R k k) [0, 1, 2, 3, 4, 5, 6, 15, 16] ⟨[], [(2, [0, 1, 2, 3, 4, 5, 6, 15])], [14]⟩ (.loop (sel [1, 0, 1, 0, 0, 1, 0, 0, 1, 0, 0] (Try.f28.body.getD .skip))) :=
  loop_ok (nt := 130) (c := (sel [1, 0, 1, 0, 0, 1, 0, 0, 1, 0, 0] (Try.f28.body.getD .skip))) (C := L_grown_C R k) (an := An) (t := (.seq (.seq (.reg [0, 1, 2, 3, 4, 5, 6, 15, 16, 31] []) (.cond .leaf .leaf)) (.seq (.node (.seq (.reg [0, 1, 2, 3, 4, 5, 6, 15, 16, 17] []) (.seq (.reg [0, 1, 2, 3, 4, 5, 6, 15, 16, 17, 18, 19] []) (.seq (.opq 2 [0, 1, 2, 3, 4, 5, 6, 15, 16, 17, 18, 19] ⟨[0, 1, 2, 3, 4, 5, 6, 15, 16, 17, 18, 19, 20], [], []⟩ (.reg [0, 1, 2, 3, 4, 5, 6, 15, 16, 17, 18, 19, 20] [])) (.seq (.opq 3 [0, 1, 2, 3, 4, 5, 6, 15, 16, 17, 18, 19, 20] ⟨[0, 1, 2, 3, 4, 5, 6, 15, 16, 17, 21], [], []⟩ (.reg [0, 1, 2, 3, 4, 5, 6, 15, 16, 17, 21] [])) (.seq (.reg [0, 1, 2, 3, 4, 5, 6, 15, 16, 17, 21, 22] []) (.node (.opq 4 [0, 1, 2, 3, 4, 5, 6, 15, 16, 17, 21, 22] ⟨[], [(4, [0, 1, 2, 3, 4, 5, 6, 15, 16])], [14]⟩ (.node (.seq (.seq (.reg [0, 1, 2, 3, 4, 5, 6, 15, 16, 17, 21, 22, 100] []) (.cond .leaf .leaf)) (.seq (.opq 5 [0, 1, 2, 3, 4, 5, 6, 15, 16, 17, 21, 22] ⟨[0, 1, 2, 3, 4, 5, 6, 15, 16, 17, 21, 22], [], [14]⟩ (.node (.seq (.reg [0, 1, 2, 3, 4, 5, 6, 15, 16, 17, 21, 22, 23] [[], [], [], [1, 2], [0, 1, 2, 3], [0, 1, 2, 3, 4], [], [], [], [7, 8], [6, 7, 8, 9], [6, 7, 8, 9, 10], [0, 1, 2, 3, 4, 5, 6, 7, 8, 9, 10, 11], [0, 1, 2, 3, 4, 5, 6, 7, 8, 9, 10, 11, 12]]) (.seq (.reg [0, 1, 2, 3, 4, 5, 6, 15, 16, 17, 21, 22, 129] []) (.cond (.seq (.reg [14] []) .leaf) .leaf))))) (.reg [0, 1, 2, 3, 4, 5, 6, 15, 16, 17, 21, 22] [])))))))))))) (.reg [0, 1, 2, 3, 4, 5, 6, 15, 16] [])))) (ic := L_grown_i1) (L_grown_S R k) (L_grown_J R k) (by kernel_rfl) (And.intro (And.intro True.intro (And.intro True.intro True.intro)) (And.intro (And.intro True.intro (And.intro True.intro (And.intro (L_grown_j2 k) (And.intro (L_grown_j3 k) (And.intro True.intro (L_grown_j4 k)))))) True.intro)) (L_grown_a1 R k) (fun vals H K => by unfold L_grown_a1 L_grown_aa1; split <;> rfl)
    (fun n vals H K r h => by
      unfold L_grown_a1 L_grown_aa1 at h
      split at h <;> first | (cases h; done) | exact Eq.trans (L_grown_e1 (L_grown_l0 k) (L_grown_l1 k) (L_grown_p2 k) (L_grown_p3 k) (L_grown_l4 k) (L_grown_p5 k) k n _ _ _ _ _ _ _ _ _ _ _ _ _ H K) h) k
theorem L_grown_e0 {R : Type} (L_grown_l0 : (Heap → Option R) → (Bool → Heap → Option R) → Nat → Option Addr → Nat → Nat → Option Addr → Nat → Nat → Int → Int → Int → Int → Bool → Int → Heap → Option R) (L_grown_l1 : (Option Addr → Nat → Nat → Option Addr → Nat → Nat → Int → Int → Int → Int → Bool → Int → Heap → Option R) → (Bool → Heap → Option R) → Nat → Option Addr → Nat → Nat → Option Addr → Nat → Nat → Int → Int → Int → Int → Bool → Int → Int → Heap → Option R) (L_grown_p2 : Option Addr → Nat → Nat → Option Addr → Nat → Nat → Int → Int → Int → Int → Bool → Int → Int → Int → Int → Int → (Option Addr → Nat → Nat → Option Addr → Nat → Nat → Int → Int → Int → Int → Bool → Int → Int → Int → Int → Int → Bool → Option R) → Option R) (L_grown_p3 : Option Addr → Nat → Nat → Option Addr → Nat → Nat → Int → Int → Int → Int → Bool → Int → Int → Int → Int → Int → Bool → Heap → (Option Addr → Nat → Nat → Option Addr → Nat → Nat → Int → Int → Int → Int → Bool → Int → Int → Int → Option Addr → Heap → Option R) → Option R) (L_grown_l4 : (Option Addr → Nat → Nat → Option Addr → Nat → Nat → Int → Int → Int → Int → Bool → Int → Int → Option R) → (Bool → Option R) → Nat → Option Addr → Nat → Nat → Option Addr → Nat → Nat → Int → Int → Int → Int → Bool → Int → Int → Int → Option Addr → Int → Heap → Option R) (L_grown_p5 : Option Addr → Nat → Nat → Option Addr → Nat → Nat → Int → Int → Int → Int → Bool → Int → Int → Int → Option Addr → Int → Heap → (Option Addr → Nat → Nat → Option Addr → Nat → Nat → Int → Int → Int → Int → Bool → Int → Int → Int → Option Addr → Int → Option R) → (Bool → Option R) → Option R) (k n : Nat) (q529 : Option Addr) (l530 : Nat) (c531 : Nat) (q532 : Option Addr) (l533 : Nat) (c534 : Nat) (n535 : Int) (n536 : Int) (n537 : Int) (n538 : Int) (t539 : Bool) (n540 : Int) (H : Heap) (K : Xit → Env → Heap → Option R) : evJ (L_grown_Ct) (L_grown_Jt k L_grown_l0 L_grown_l1 L_grown_p2 L_grown_p3 L_grown_l4 L_grown_p5) L_grown_i0 (List.zip [0, 1, 2, 3, 4, 5, 6, 15] [.slice q529 l530 c531, .slice q532 l533 c534, .int .i64 n535, .int .i64 n536, .int .i64 n537, .int .i64 n538, .bool t539, .int .i64 n540]) H (fun x e' H' => match x with | .normal => L_grown_aa0 L_grown_l0 n ((clean e' [0, 1, 2, 3, 4, 5, 6, 15]).map (·.2)) H' K | x => K x (clean e' ((⟨[], [(0, [])], [14]⟩ : Out).of x)) H') = L_grown_l0_b L_grown_l1 (L_grown_l0 (fun H => K (.exit 0) [] H) (fun t1389 H => K .ret [(14, .bool t1389)] H) n) (fun H => K (.exit 0) [] H) (fun t1389 H => K .ret [(14, .bool t1389)] H) k q529 l530 c531 q532 l533 c534 n535 n536 n537 n538 t539 n540 H := by kernel_rfl
theorem L_grown_j0 {R : Type} (k : Nat) : JS Try.prog 130 (L_grown_a0 R k k) [0, 1, 2, 3, 4, 5, 6, 15] ⟨[], [(0, [])], [14]⟩ (.loop (sel [1, 0, 1, 0, 0] (Try.f28.body.getD .skip))) :=
  loop_ok (nt := 130) (c := (sel [1, 0, 1, 0, 0] (Try.f28.body.getD .skip))) (C := L_grown_C R k) (an := An) (t := (.seq (.seq (.reg [0, 1, 2, 3, 4, 5, 6, 15, 26] []) (.cond .leaf .leaf)) (.seq (.node (.seq (.reg [0, 1, 2, 3, 4, 5, 6, 15, 16] []) (.node (.opq 1 [0, 1, 2, 3, 4, 5, 6, 15, 16] ⟨[], [(2, [0, 1, 2, 3, 4, 5, 6, 15])], [14]⟩ (.node (.seq (.seq (.reg [0, 1, 2, 3, 4, 5, 6, 15, 16, 31] []) (.cond .leaf .leaf)) (.seq (.node (.seq (.reg [0, 1, 2, 3, 4, 5, 6, 15, 16, 17] []) (.seq (.reg [0, 1, 2, 3, 4, 5, 6, 15, 16, 17, 18, 19] []) (.seq (.opq 2 [0, 1, 2, 3, 4, 5, 6, 15, 16, 17, 18, 19] ⟨[0, 1, 2, 3, 4, 5, 6, 15, 16, 17, 18, 19, 20], [], []⟩ (.reg [0, 1, 2, 3, 4, 5, 6, 15, 16, 17, 18, 19, 20] [])) (.seq (.opq 3 [0, 1, 2, 3, 4, 5, 6, 15, 16, 17, 18, 19, 20] ⟨[0, 1, 2, 3, 4, 5, 6, 15, 16, 17, 21], [], []⟩ (.reg [0, 1, 2, 3, 4, 5, 6, 15, 16, 17, 21] [])) (.seq (.reg [0, 1, 2, 3, 4, 5, 6, 15, 16, 17, 21, 22] []) (.node (.opq 4 [0, 1, 2, 3, 4, 5, 6, 15, 16, 17, 21, 22] ⟨[], [(4, [0, 1, 2, 3, 4, 5, 6, 15, 16])], [14]⟩ (.node (.seq (.seq (.reg [0, 1, 2, 3, 4, 5, 6, 15, 16, 17, 21, 22, 100] []) (.cond .leaf .leaf)) (.seq (.opq 5 [0, 1, 2, 3, 4, 5, 6, 15, 16, 17, 21, 22] ⟨[0, 1, 2, 3, 4, 5, 6, 15, 16, 17, 21, 22], [], [14]⟩ (.node (.seq (.reg [0, 1, 2, 3, 4, 5, 6, 15, 16, 17, 21, 22, 23] [[], [], [], [1, 2], [0, 1, 2, 3], [0, 1, 2, 3, 4], [], [], [], [7, 8], [6, 7, 8, 9], [6, 7, 8, 9, 10], [0, 1, 2, 3, 4, 5, 6, 7, 8, 9, 10, 11], [0, 1, 2, 3, 4, 5, 6, 7, 8, 9, 10, 11, 12]]) (.seq (.reg [0, 1, 2, 3, 4, 5, 6, 15, 16, 17, 21, 22, 129] []) (.cond (.seq (.reg [14] []) .leaf) .leaf))))) (.reg [0, 1, 2, 3, 4, 5, 6, 15, 16, 17, 21, 22] [])))))))))))) (.reg [0, 1, 2, 3, 4, 5, 6, 15, 16] [])))))))) (.reg [0, 1, 2, 3, 4, 5, 6, 15] [])))) (ic := L_grown_i0) (L_grown_S R k) (L_grown_J R k) (by kernel_rfl) (And.intro (And.intro True.intro (And.intro True.intro True.intro)) (And.intro (And.intro True.intro (L_grown_j1 k)) True.intro)) (L_grown_a0 R k) (fun vals H K => by unfold L_grown_a0 L_grown_aa0; split <;> rfl)
    (fun n vals H K r h => by
      unfold L_grown_a0 L_grown_aa0 at h
      split at h <;> first | (cases h; done) | exact Eq.trans (L_grown_e0 (L_grown_l0 k) (L_grown_l1 k) (L_grown_p2 k) (L_grown_p3 k) (L_grown_l4 k) (L_grown_p5 k) k n _ _ _ _ _ _ _ _ _ _ _ _ H K) h) k
def L_grown_ca {R : Type} (f : Option Addr → Nat → Nat → Option Addr → Nat → Nat → Int → Int → Int → Int → Bool → Heap → (Bool → Heap → Option R) → Option R) (args : List Value) (H : Heap) (K : Value → Heap → Option R) : Option R :=
  match args with
  | [.slice q518 l519 c520, .slice q521 l522 c523, .int .i64 n524, .int .i64 n525, .int .i64 n526, .int .i64 n527, .bool t528] => f q518 l519 c520 q521 l522 c523 n524 n525 n526 n527 t528 H (fun t1466 H => K (.bool t1466) H)
  | _ => none
def L_grown_c (R : Type) (k : Nat) (args : List Value) (H : Heap) (K : Value → Heap → Option R) : Option R := L_grown_ca (L_grown k) args H K
theorem L_grown_e {R : Type} (L_grown_l0 : (Heap → Option R) → (Bool → Heap → Option R) → Nat → Option Addr → Nat → Nat → Option Addr → Nat → Nat → Int → Int → Int → Int → Bool → Int → Heap → Option R) (L_grown_l1 : (Option Addr → Nat → Nat → Option Addr → Nat → Nat → Int → Int → Int → Int → Bool → Int → Heap → Option R) → (Bool → Heap → Option R) → Nat → Option Addr → Nat → Nat → Option Addr → Nat → Nat → Int → Int → Int → Int → Bool → Int → Int → Heap → Option R) (L_grown_p2 : Option Addr → Nat → Nat → Option Addr → Nat → Nat → Int → Int → Int → Int → Bool → Int → Int → Int → Int → Int → (Option Addr → Nat → Nat → Option Addr → Nat → Nat → Int → Int → Int → Int → Bool → Int → Int → Int → Int → Int → Bool → Option R) → Option R) (L_grown_p3 : Option Addr → Nat → Nat → Option Addr → Nat → Nat → Int → Int → Int → Int → Bool → Int → Int → Int → Int → Int → Bool → Heap → (Option Addr → Nat → Nat → Option Addr → Nat → Nat → Int → Int → Int → Int → Bool → Int → Int → Int → Option Addr → Heap → Option R) → Option R) (L_grown_l4 : (Option Addr → Nat → Nat → Option Addr → Nat → Nat → Int → Int → Int → Int → Bool → Int → Int → Option R) → (Bool → Option R) → Nat → Option Addr → Nat → Nat → Option Addr → Nat → Nat → Int → Int → Int → Int → Bool → Int → Int → Int → Option Addr → Int → Heap → Option R) (L_grown_p5 : Option Addr → Nat → Nat → Option Addr → Nat → Nat → Int → Int → Int → Int → Bool → Int → Int → Int → Option Addr → Int → Heap → (Option Addr → Nat → Nat → Option Addr → Nat → Nat → Int → Int → Int → Int → Bool → Int → Int → Int → Option Addr → Int → Option R) → (Bool → Option R) → Option R) (k : Nat) (q518 : Option Addr) (l519 : Nat) (c520 : Nat) (q521 : Option Addr) (l522 : Nat) (c523 : Nat) (n524 : Int) (n525 : Int) (n526 : Int) (n527 : Int) (t528 : Bool) (H : Heap) (K : Value → Heap → Option R) : evF (L_grown_Ct) (L_grown_Jt k L_grown_l0 L_grown_l1 L_grown_p2 L_grown_p3 L_grown_l4 L_grown_p5) L_grown_f [.slice q518 l519 c520, .slice q521 l522 c523, .int .i64 n524, .int .i64 n525, .int .i64 n526, .int .i64 n527, .bool t528] H K = L_grown_b L_grown_l0 k q518 l519 c520 q521 l522 c523 n524 n525 n526 n527 t528 H (fun t1466 H => K (.bool t1466) H) := by kernel_rfl
theorem L_grown_cs (R : Type) (k : Nat) : ∀ args H K r, L_grown_c R k args H K = some r → ∃ v H', Tri Try.prog 28 args H v H' ∧ K v H' = some r := by
  intro args H K r h
  unfold L_grown_c L_grown_ca at h
  split at h
  · exact evF_ok (C := L_grown_C R k) (an := An) (t := L_grown_at) (fn := Try.f28) (c := (Try.f28.body.getD .skip)) (ifn := L_grown_f) (L_grown_S R k) (L_grown_J R k) Try.func28 (by kernel_rfl) (by kernel_rfl) (And.intro True.intro (And.intro (And.intro True.intro (L_grown_j0 k)) (And.intro True.intro True.intro))) rfl (Eq.trans (L_grown_e (L_grown_l0 k) (L_grown_l1 k) (L_grown_p2 k) (L_grown_p3 k) (L_grown_l4 k) (L_grown_p5 k) k _ _ _ _ _ _ _ _ _ _ _ H K) h)
  · cases h
/-! ### L_CblkGrows: function 7 -/
def L_CblkGrows_p0_b {R : Type} (cblk_Block_Mark : Option Addr → Int → Int → Heap → (Int → Heap → Option R) → Option R) (L_counts : Option Addr → Int → Int → Bool → Heap → (Option Addr → Nat → Nat → Heap → Option R) → Option R) (L_grown : Option Addr → Nat → Nat → Option Addr → Nat → Nat → Int → Int → Int → Int → Bool → Heap → (Bool → Heap → Option R) → Option R) (k : Nat) (n444 : Int) (n445 : Int) (p446 : Option Addr) (n447 : Int) (n448 : Int) (q449 : Option Addr) (l450 : Nat) (c451 : Nat) (q452 : Option Addr) (l453 : Nat) (c454 : Nat) (H : Heap) (KN : Int → Int → Option Addr → Heap → Option R) (KR : Bool → Heap → Option R) : Option R :=
cblk_Block_Mark p446 n447 n448 H fun n455 H456 =>
bif (n455 != 0) then (KR false H456)
 else (L_counts p446 n444 n445 false H456 fun q457 l458 c459 H460 =>
L_grown q449 l450 c451 q457 l458 c459 n444 n445 n447 n448 false H460 fun t461 H462 =>
bif (!t461) then (KR false H462)
 else (L_counts p446 n444 n445 true H462 fun q463 l464 c465 H466 =>
L_grown q452 l453 c454 q463 l464 c465 n444 n445 n447 n448 true H466 fun t467 H468 =>
bif (!t467) then (KR false H468)
 else (KN n444 n445 p446 H468)))
def L_CblkGrows_p0 {R : Type} (k : Nat) (n444 : Int) (n445 : Int) (p446 : Option Addr) (n447 : Int) (n448 : Int) (q449 : Option Addr) (l450 : Nat) (c451 : Nat) (q452 : Option Addr) (l453 : Nat) (c454 : Nat) (H : Heap) (KN : Int → Int → Option Addr → Heap → Option R) (KR : Bool → Heap → Option R) : Option R := L_CblkGrows_p0_b (cblk_Block_Mark k) (L_counts k) (L_grown k) k n444 n445 p446 n447 n448 q449 l450 c451 q452 l453 c454 H KN KR

def L_CblkGrows_p3_b {R : Type} (cblk_Block_Neighbors : Option Addr → Int → Int → Bool → Heap → (Int → Int → Int → Option R) → Option R) (cblk_Block_Signs : Option Addr → Int → Int → Bool → Heap → (Int → Int → Option R) → Option R) (k : Nat) (n486 : Int) (n487 : Int) (p488 : Option Addr) (n489 : Int) (n490 : Int) (H : Heap) (KN : Int → Int → Option Addr → Int → Int → Option R) (KR : Bool → Option R) : Option R :=
cblk_Block_Neighbors p488 n490 n489 true H fun n491 n492 n493 =>
cblk_Block_Signs p488 n490 n489 true H fun n494 n495 =>
bif decide (n494 < (-1)) then (KR false)
 else (bif decide (n494 > 1) then (KR false)
 else (bif decide (n495 < (-1)) then (KR false)
 else (bif decide (n495 > 1) then (KR false)
 else (bif (n491 == 0) then (bif (n494 != 0) then (KR false)
 else (bif (n492 == 0) then (bif (n495 != 0) then (KR false)
 else (KN n486 n487 p488 n489 n490))
 else (KN n486 n487 p488 n489 n490)))
 else (bif (n492 == 0) then (bif (n495 != 0) then (KR false)
 else (KN n486 n487 p488 n489 n490))
 else (KN n486 n487 p488 n489 n490))))))
def L_CblkGrows_p3 {R : Type} (k : Nat) (n486 : Int) (n487 : Int) (p488 : Option Addr) (n489 : Int) (n490 : Int) (H : Heap) (KN : Int → Int → Option Addr → Int → Int → Option R) (KR : Bool → Option R) : Option R := L_CblkGrows_p3_b (cblk_Block_Neighbors k) (cblk_Block_Signs k) k n486 n487 p488 n489 n490 H KN KR

def L_CblkGrows_l2_b {R : Type} (L_CblkGrows_p3 : Int → Int → Option Addr → Int → Int → Heap → (Int → Int → Option Addr → Int → Int → Option R) → (Bool → Option R) → Option R) (rec : Int → Int → Option Addr → Int → Int → Heap → Option R) (KE2 : Int → Int → Option Addr → Int → Option R) (KR : Bool → Option R) (k : Nat) (n481 : Int) (n482 : Int) (p483 : Option Addr) (n484 : Int) (n485 : Int) (H : Heap) : Option R :=
bif decide (n485 < n481) then (L_CblkGrows_p3 n481 n482 p483 n484 n485 H (fun n502 n503 p504 n505 n506 =>
rec n502 n503 p504 n505 (IntKind.wrap .i64 (n506 + 1)) H) (fun t507 =>
KR t507))
 else (KE2 n481 n482 p483 n484)
def L_CblkGrows_l2 {R : Type} (k : Nat) (KE2 : Int → Int → Option Addr → Int → Option R) (KR : Bool → Option R) : Nat → Int → Int → Option Addr → Int → Int → Heap → Option R
  | 0, _, _, _, _, _, _ => none
  | n + 1, n481, n482, p483, n484, n485, H => L_CblkGrows_l2_b (L_CblkGrows_p3 k) (L_CblkGrows_l2 k KE2 KR n) KE2 KR k n481 n482 p483 n484 n485 H

def L_CblkGrows_l1_b {R : Type} (L_CblkGrows_l2 : (Int → Int → Option Addr → Int → Option R) → (Bool → Option R) → Nat → Int → Int → Option Addr → Int → Int → Heap → Option R) (rec : Int → Int → Option Addr → Int → Heap → Option R) (KE0 : Unit → Option R) (KR : Bool → Option R) (k : Nat) (n477 : Int) (n478 : Int) (p479 : Option Addr) (n480 : Int) (H : Heap) : Option R :=
bif decide (n480 < n478) then (L_CblkGrows_l2 (fun n513 n514 p515 n516 =>
rec n513 n514 p515 (IntKind.wrap .i64 (n516 + 1)) H) (fun t517 =>
KR t517) k n477 n478 p479 n480 0 H)
 else (KE0 ())
def L_CblkGrows_l1 {R : Type} (k : Nat) (KE0 : Unit → Option R) (KR : Bool → Option R) : Nat → Int → Int → Option Addr → Int → Heap → Option R
  | 0, _, _, _, _, _ => none
  | n + 1, n477, n478, p479, n480, H => L_CblkGrows_l1_b (L_CblkGrows_l2 k) (L_CblkGrows_l1 k KE0 KR n) KE0 KR k n477 n478 p479 n480 H

def L_CblkGrows_b {R : Type} (L_small : Int → Int → Option Addr → Nat → Nat → (Bool → Option R) → Option R) (L_exampleHoldsq : (Bool → Option R) → Option R) (L_played : Int → Int → Option Addr → Nat → Nat → Heap → (Option Addr → Option Addr → Heap → Option R) → Option R) (cblk_Block_Significant : Option Addr → Int → Int → Heap → (Bool → Option R) → Option R) (L_counts : Option Addr → Int → Int → Bool → Heap → (Option Addr → Nat → Nat → Heap → Option R) → Option R) (L_CblkGrows_p0 : Int → Int → Option Addr → Int → Int → Option Addr → Nat → Nat → Option Addr → Nat → Nat → Heap → (Int → Int → Option Addr → Heap → Option R) → (Bool → Heap → Option R) → Option R) (L_CblkGrows_l1 : (Unit → Option R) → (Bool → Option R) → Nat → Int → Int → Option Addr → Int → Heap → Option R) (k : Nat) (n422 : Int) (n423 : Int) (q424 : Option Addr) (l425 : Nat) (c426 : Nat) (H : Heap) (K : Bool → Heap → Option R) : Option R :=
L_small n422 n423 q424 l425 c426 fun t427 =>
bif (!t427) then (L_exampleHoldsq fun t428 =>
K t428 H)
 else (L_played n422 n423 q424 l425 c426 H fun p429 p430 H431 =>
hbin .rem .i64 ((l425 : Nat) : Int) n422 fun n432 =>
hbin .rem .i64 (IntKind.wrap .i64 (((l425 : Nat) : Int) + n422)) n423 fun n433 =>
cblk_Block_Significant p429 n432 n433 H431 fun t434 =>
bif t434 then (L_exampleHoldsq fun t435 =>
K t435 H431)
 else (L_counts p429 n422 n423 false H431 fun q436 l437 c438 H439 =>
L_counts p429 n422 n423 true H439 fun q440 l441 c442 H443 =>
L_CblkGrows_p0 n422 n423 p429 n432 n433 q436 l437 c438 q440 l441 c442 H443 (fun n473 n474 p475 H476 =>
L_CblkGrows_l1 (fun (_ : Unit) =>
L_exampleHoldsq fun t519 =>
K t519 H476) (fun t520 =>
K t520 H476) k n473 n474 p475 0 H476) (fun t521 H522 =>
K t521 H522)))

def L_CblkGrows {R : Type} (k : Nat) (n422 : Int) (n423 : Int) (q424 : Option Addr) (l425 : Nat) (c426 : Nat) (H : Heap) (K : Bool → Heap → Option R) : Option R := L_CblkGrows_b L_small L_exampleHoldsq (L_played k) (cblk_Block_Significant k) (L_counts k) (L_CblkGrows_p0 k) (L_CblkGrows_l1 k) k n422 n423 q424 l425 c426 H K

def L_CblkGrows_Ct {R : Type} (L_small : Int → Int → Option Addr → Nat → Nat → (Bool → Option R) → Option R) (L_exampleHoldsq : (Bool → Option R) → Option R) (L_played : Int → Int → Option Addr → Nat → Nat → Heap → (Option Addr → Option Addr → Heap → Option R) → Option R) (cblk_Block_Significant : Option Addr → Int → Int → Heap → (Bool → Option R) → Option R) (L_counts : Option Addr → Int → Int → Bool → Heap → (Option Addr → Nat → Nat → Heap → Option R) → Option R) (cblk_Block_Mark : Option Addr → Int → Int → Heap → (Int → Heap → Option R) → Option R) (L_grown : Option Addr → Nat → Nat → Option Addr → Nat → Nat → Int → Int → Int → Int → Bool → Heap → (Bool → Heap → Option R) → Option R) (cblk_Block_Neighbors : Option Addr → Int → Int → Bool → Heap → (Int → Int → Int → Option R) → Option R) (cblk_Block_Signs : Option Addr → Int → Int → Bool → Heap → (Int → Int → Option R) → Option R) : Tab R := tcons 22 (L_small_ca L_small) <| tcons 14 (L_exampleHoldsq_ca L_exampleHoldsq) <| tcons 23 (L_played_ca L_played) <| tcons 25 (cblk_Block_Significant_ca cblk_Block_Significant) <| tcons 26 (L_counts_ca L_counts) <| tcons 27 (cblk_Block_Mark_ca cblk_Block_Mark) <| tcons 28 (L_grown_ca L_grown) <| tcons 29 (cblk_Block_Neighbors_ca cblk_Block_Neighbors) <| tcons 30 (cblk_Block_Signs_ca cblk_Block_Signs) <| fun _ _ _ _ => none
def L_CblkGrows_C (R : Type) (k : Nat) : Tab R := L_CblkGrows_Ct L_small L_exampleHoldsq (L_played k) (cblk_Block_Significant k) (L_counts k) (cblk_Block_Mark k) (L_grown k) (cblk_Block_Neighbors k) (cblk_Block_Signs k)
theorem L_CblkGrows_S (R : Type) (k : Nat) : CSound Try.prog (L_CblkGrows_C R k) := csound_cons (L_small_cs R k) <| csound_cons (L_exampleHoldsq_cs R k) <| csound_cons (L_played_cs R k) <| csound_cons (cblk_Block_Significant_cs R k) <| csound_cons (L_counts_cs R k) <| csound_cons (cblk_Block_Mark_cs R k) <| csound_cons (L_grown_cs R k) <| csound_cons (cblk_Block_Neighbors_cs R k) <| csound_cons (cblk_Block_Signs_cs R k) <| csound_nil
def L_CblkGrows_aa0 {R : Type} (f : Int → Int → Option Addr → Int → Int → Option Addr → Nat → Nat → Option Addr → Nat → Nat → Heap → (Int → Int → Option Addr → Heap → Option R) → (Bool → Heap → Option R) → Option R) (n : Nat) (vals : List Value) (H : Heap) (K : Xit → Env → Heap → Option R) : Option R :=
  match vals with
  | [.int .i64 n444, .int .i64 n445, .pointer p446, .int .i64 n447, .int .i64 n448, .slice q449 l450 c451, .slice q452 l453 c454] => f n444 n445 p446 n447 n448 q449 l450 c451 q452 l453 c454 H (fun n1467 n1468 p1469 H => K .normal [(0, .int .i64 n1467), (1, .int .i64 n1468), (7, .pointer p1469)] H) (fun t1470 H => K .ret [(6, .bool t1470)] H)
  | _ => none
def L_CblkGrows_a0 (R : Type) (k n : Nat) (vals : List Value) (H : Heap) (K : Xit → Env → Heap → Option R) : Option R := L_CblkGrows_aa0 (L_CblkGrows_p0 k) n vals H K
def L_CblkGrows_aa1 {R : Type} (f : (Unit → Option R) → (Bool → Option R) → Nat → Int → Int → Option Addr → Int → Heap → Option R) (n : Nat) (vals : List Value) (H : Heap) (K : Xit → Env → Heap → Option R) : Option R :=
  match vals with
  | [.int .i64 n477, .int .i64 n478, .pointer p479, .int .i64 n480] => f (fun _ => K (.exit 0) [] H) (fun t1471 => K .ret [(6, .bool t1471)] H) n n477 n478 p479 n480 H
  | _ => none
def L_CblkGrows_a1 (R : Type) (k n : Nat) (vals : List Value) (H : Heap) (K : Xit → Env → Heap → Option R) : Option R := L_CblkGrows_aa1 (L_CblkGrows_l1 k) n vals H K
def L_CblkGrows_aa2 {R : Type} (f : (Int → Int → Option Addr → Int → Option R) → (Bool → Option R) → Nat → Int → Int → Option Addr → Int → Int → Heap → Option R) (n : Nat) (vals : List Value) (H : Heap) (K : Xit → Env → Heap → Option R) : Option R :=
  match vals with
  | [.int .i64 n481, .int .i64 n482, .pointer p483, .int .i64 n484, .int .i64 n485] => f (fun n1472 n1473 p1474 n1475 => K (.exit 2) [(0, .int .i64 n1472), (1, .int .i64 n1473), (7, .pointer p1474), (13, .int .i64 n1475)] H) (fun t1476 => K .ret [(6, .bool t1476)] H) n n481 n482 p483 n484 n485 H
  | _ => none
def L_CblkGrows_a2 (R : Type) (k n : Nat) (vals : List Value) (H : Heap) (K : Xit → Env → Heap → Option R) : Option R := L_CblkGrows_aa2 (L_CblkGrows_l2 k) n vals H K
def L_CblkGrows_aa3 {R : Type} (f : Int → Int → Option Addr → Int → Int → Heap → (Int → Int → Option Addr → Int → Int → Option R) → (Bool → Option R) → Option R) (n : Nat) (vals : List Value) (H : Heap) (K : Xit → Env → Heap → Option R) : Option R :=
  match vals with
  | [.int .i64 n486, .int .i64 n487, .pointer p488, .int .i64 n489, .int .i64 n490] => f n486 n487 p488 n489 n490 H (fun n1477 n1478 p1479 n1480 n1481 => K .normal [(0, .int .i64 n1477), (1, .int .i64 n1478), (7, .pointer p1479), (13, .int .i64 n1480), (14, .int .i64 n1481)] H) (fun t1482 => K .ret [(6, .bool t1482)] H)
  | _ => none
def L_CblkGrows_a3 (R : Type) (k n : Nat) (vals : List Value) (H : Heap) (K : Xit → Env → Heap → Option R) : Option R := L_CblkGrows_aa3 (L_CblkGrows_p3 k) n vals H K
def L_CblkGrows_Jt {R : Type} (k : Nat) (L_CblkGrows_p0 : Int → Int → Option Addr → Int → Int → Option Addr → Nat → Nat → Option Addr → Nat → Nat → Heap → (Int → Int → Option Addr → Heap → Option R) → (Bool → Heap → Option R) → Option R) (L_CblkGrows_l1 : (Unit → Option R) → (Bool → Option R) → Nat → Int → Int → Option Addr → Int → Heap → Option R) (L_CblkGrows_l2 : (Int → Int → Option Addr → Int → Option R) → (Bool → Option R) → Nat → Int → Int → Option Addr → Int → Int → Heap → Option R) (L_CblkGrows_p3 : Int → Int → Option Addr → Int → Int → Heap → (Int → Int → Option Addr → Int → Int → Option R) → (Bool → Option R) → Option R) : JTab R := tcons 0 (L_CblkGrows_aa0 L_CblkGrows_p0 k) <| tcons 1 (L_CblkGrows_aa1 L_CblkGrows_l1 k) <| tcons 2 (L_CblkGrows_aa2 L_CblkGrows_l2 k) <| tcons 3 (L_CblkGrows_aa3 L_CblkGrows_p3 k) <| fun _ _ _ _ => none
def L_CblkGrows_J (R : Type) (k : Nat) : JTab R := L_CblkGrows_Jt k (L_CblkGrows_p0 k) (L_CblkGrows_l1 k) (L_CblkGrows_l2 k) (L_CblkGrows_p3 k)
def L_CblkGrows_at : AT := (.seq (.reg [0, 1, 2] []) (.seq (.seq (.reg [0, 1, 2, 24] []) (.cond (.seq (.reg [6] []) .leaf) .leaf)) (.seq (.reg [0, 1, 2, 7] []) (.seq (.reg [0, 1, 7, 9, 10] [[], [0], [], [0, 1, 2], [], [4], [], [4, 5, 6], [], [4, 5, 6, 7, 8], [0, 1, 2, 3], [0, 1, 2, 3, 4, 5, 6, 7, 8, 9, 10]]) (.seq (.seq (.reg [0, 1, 7, 9, 10, 46] []) (.cond (.seq (.reg [6] []) .leaf) .leaf)) (.seq (.reg [0, 1, 7, 9, 10, 11, 12] []) (.seq (.opq 0 [0, 1, 7, 9, 10, 11, 12] ⟨[0, 1, 7], [], [6]⟩ (.seq (.reg [0, 1, 7, 86] []) (.cond (.seq (.reg [6] []) .leaf) .leaf))) (.seq (.seq (.reg [0, 1, 7, 13] []) (.node (.opq 1 [0, 1, 7, 13] ⟨[], [(0, [])], [6]⟩ (.node (.seq (.seq (.reg [0, 1, 7, 13, 89] []) (.cond .leaf .leaf)) (.seq (.node (.seq (.reg [0, 1, 7, 13, 14] []) (.node (.opq 2 [0, 1, 7, 13, 14] ⟨[], [(2, [0, 1, 7, 13])], [6]⟩ (.node (.seq (.seq (.reg [0, 1, 7, 13, 14, 94] []) (.cond .leaf .leaf)) (.seq (.opq 3 [0, 1, 7, 13, 14] ⟨[0, 1, 7, 13, 14], [], [6]⟩ (.node (.seq (.reg [0, 1, 7, 13, 14, 15, 16] []) (.seq (.reg [0, 1, 7, 13, 14, 15, 16, 18, 19] []) (.seq (.reg [0, 1, 7, 13, 14, 141] []) (.cond (.seq (.reg [6] []) .leaf) .leaf)))))) (.reg [0, 1, 7, 13, 14] [])))))))) (.reg [0, 1, 7, 13] []))))))) (.seq (.reg [6] []) .leaf)))))))))
def L_CblkGrows_i3 : IC := (.block 3 (.seq (.reg [⟨some 98, .mov (.t 7), none⟩,
 ⟨some 99, .mov (.t 14), none⟩,
 ⟨some 100, .mov (.t 13), none⟩,
 ⟨some 101, .call 29 [(.t 98), (.t 99), (.t 100), (.c (Go.Value.bool true))] (.tup [(.sc (.int .i64)), (.sc (.int .i64)), (.sc (.int .i64))]), none⟩,
 ⟨some 97, .mov (.t 101), none⟩,
 ⟨some 102, .ext 0 (.t 97), none⟩,
 ⟨some 103, .ext 1 (.t 97), none⟩,
 ⟨some 104, .ext 2 (.t 97), none⟩,
 ⟨some 15, .mov (.t 102), none⟩,
 ⟨some 16, .mov (.t 103), none⟩,
 ⟨some 17, .mov (.t 104), none⟩] [0, 1, 7, 13, 14, 15, 16]) (.seq (.reg [⟨some 106, .mov (.t 7), none⟩,
 ⟨some 107, .mov (.t 14), none⟩,
 ⟨some 108, .mov (.t 13), none⟩,
 ⟨some 109, .call 30 [(.t 106), (.t 107), (.t 108), (.c (Go.Value.bool true))] (.tup [(.sc (.int .i64)), (.sc (.int .i64))]), none⟩,
 ⟨some 105, .mov (.t 109), none⟩,
 ⟨some 110, .ext 0 (.t 105), none⟩,
 ⟨some 111, .ext 1 (.t 105), none⟩,
 ⟨some 18, .mov (.t 110), none⟩,
 ⟨some 19, .mov (.t 111), none⟩] [0, 1, 7, 13, 14, 15, 16, 18, 19]) (.seq (.reg [⟨some 112, .mov (.t 18), none⟩,
 ⟨some 113, .cmp .lss (.t 112) (.c (Go.Value.int Go.IntKind.i64 (-1))), none⟩,
 ⟨some 114, .mov (.t 113), none⟩,
 ⟨some 115, .mov (.t 18), some (114, false)⟩,
 ⟨some 116, .cmp .gtr (.t 115) (.c (Go.Value.int Go.IntKind.i64 1)), some (114, false)⟩,
 ⟨some 117, .pick (.t 114) (.c (Go.Value.bool true)) (.t 116), none⟩,
 ⟨some 118, .mov (.t 117), none⟩,
 ⟨some 119, .mov (.t 19), some (118, false)⟩,
 ⟨some 120, .cmp .lss (.t 119) (.c (Go.Value.int Go.IntKind.i64 (-1))), some (118, false)⟩,
 ⟨some 121, .pick (.t 118) (.c (Go.Value.bool true)) (.t 120), none⟩,
 ⟨some 122, .mov (.t 121), none⟩,
 ⟨some 123, .mov (.t 19), some (122, false)⟩,
 ⟨some 124, .cmp .gtr (.t 123) (.c (Go.Value.int Go.IntKind.i64 1)), some (122, false)⟩,
 ⟨some 125, .pick (.t 122) (.c (Go.Value.bool true)) (.t 124), none⟩,
 ⟨some 126, .mov (.t 125), none⟩,
 ⟨some 127, .mov (.t 15), some (126, false)⟩,
 ⟨some 128, .cmp .eql (.t 127) (.c (Go.Value.int Go.IntKind.i64 0)), some (126, false)⟩,
 ⟨some 129, .mov (.t 128), some (126, false)⟩,
 ⟨some 130, .mov (.t 18), some (129, true)⟩,
 ⟨some 131, .cmp .neq (.t 130) (.c (Go.Value.int Go.IntKind.i64 0)), some (129, true)⟩,
 ⟨some 132, .pick (.t 129) (.t 131) (.c (Go.Value.bool false)), some (126, false)⟩,
 ⟨some 133, .pick (.t 126) (.c (Go.Value.bool true)) (.t 132), none⟩,
 ⟨some 134, .mov (.t 133), none⟩,
 ⟨some 135, .mov (.t 16), some (134, false)⟩,
 ⟨some 136, .cmp .eql (.t 135) (.c (Go.Value.int Go.IntKind.i64 0)), some (134, false)⟩,
 ⟨some 137, .mov (.t 136), some (134, false)⟩,
 ⟨some 138, .mov (.t 19), some (137, true)⟩,
 ⟨some 139, .cmp .neq (.t 138) (.c (Go.Value.int Go.IntKind.i64 0)), some (137, true)⟩,
 ⟨some 140, .pick (.t 137) (.t 139) (.c (Go.Value.bool false)), some (134, false)⟩,
 ⟨some 141, .pick (.t 134) (.c (Go.Value.bool true)) (.t 140), none⟩] [0, 1, 7, 13, 14, 141]) (.cond (.t 141) (.seq (.reg [⟨some 6, .mov (.c (Go.Value.bool false)), none⟩] [6]) .ret) .skip)))))
def L_CblkGrows_i2 : IC := (.seq (.seq (.reg [⟨some 92, .mov (.t 14), none⟩,
 ⟨some 93, .mov (.t 0), none⟩,
 ⟨some 94, .cmp .lss (.t 92) (.t 93), none⟩] [0, 1, 7, 13, 14, 94]) (.cond (.t 94) .skip (.exit 2))) (.seq (.opq 3 [0, 1, 7, 13, 14] L_CblkGrows_i3) (.reg [⟨some 95, .mov (.t 14), none⟩,
 ⟨some 96, .bin .add .i64 (.t 95) (.c (Go.Value.int Go.IntKind.i64 1)), none⟩,
 ⟨some 14, .mov (.t 96), none⟩] [0, 1, 7, 13, 14])))
def L_CblkGrows_i1 : IC := (.seq (.seq (.reg [⟨some 87, .mov (.t 13), none⟩,
 ⟨some 88, .mov (.t 1), none⟩,
 ⟨some 89, .cmp .lss (.t 87) (.t 88), none⟩] [0, 1, 7, 13, 89]) (.cond (.t 89) .skip (.exit 0))) (.seq (.block 1 (.seq (.reg [⟨some 14, .mov (.c (Go.Value.int Go.IntKind.i64 0)), none⟩] [0, 1, 7, 13, 14]) (.block 2 (.opq 2 [0, 1, 7, 13, 14] (.loop L_CblkGrows_i2))))) (.reg [⟨some 90, .mov (.t 13), none⟩,
 ⟨some 91, .bin .add .i64 (.t 90) (.c (Go.Value.int Go.IntKind.i64 1)), none⟩,
 ⟨some 13, .mov (.t 91), none⟩] [0, 1, 7, 13])))
def L_CblkGrows_i0 : IC := (.seq (.reg [⟨some 56, .mov (.t 7), none⟩,
 ⟨some 57, .mov (.t 9), none⟩,
 ⟨some 58, .mov (.t 10), none⟩,
 ⟨some 59, .call 27 [(.t 56), (.t 57), (.t 58)] (.one (.sc (.int .i64))), none⟩,
 ⟨some 60, .cmp .neq (.t 59) (.c (Go.Value.int Go.IntKind.i64 0)), none⟩,
 ⟨some 61, .mov (.t 60), none⟩,
 ⟨some 62, .mov (.t 11), some (61, false)⟩,
 ⟨some 63, .mov (.t 7), some (61, false)⟩,
 ⟨some 64, .mov (.t 0), some (61, false)⟩,
 ⟨some 65, .mov (.t 1), some (61, false)⟩,
 ⟨some 66, .call 26 [(.t 63), (.t 64), (.t 65), (.c (Go.Value.bool false))] (.one (.sc .slc)), some (61, false)⟩,
 ⟨some 67, .mov (.t 0), some (61, false)⟩,
 ⟨some 68, .mov (.t 1), some (61, false)⟩,
 ⟨some 69, .mov (.t 9), some (61, false)⟩,
 ⟨some 70, .mov (.t 10), some (61, false)⟩,
 ⟨some 71, .call 28 [(.t 62), (.t 66), (.t 67), (.t 68), (.t 69), (.t 70), (.c (Go.Value.bool false))] (.one (.sc .bool)), some (61, false)⟩,
 ⟨some 72, .lnot (.t 71), some (61, false)⟩,
 ⟨some 73, .pick (.t 61) (.c (Go.Value.bool true)) (.t 72), none⟩,
 ⟨some 74, .mov (.t 73), none⟩,
 ⟨some 75, .mov (.t 12), some (74, false)⟩,
 ⟨some 76, .mov (.t 7), some (74, false)⟩,
 ⟨some 77, .mov (.t 0), some (74, false)⟩,
 ⟨some 78, .mov (.t 1), some (74, false)⟩,
 ⟨some 79, .call 26 [(.t 76), (.t 77), (.t 78), (.c (Go.Value.bool true))] (.one (.sc .slc)), some (74, false)⟩,
 ⟨some 80, .mov (.t 0), some (74, false)⟩,
 ⟨some 81, .mov (.t 1), some (74, false)⟩,
 ⟨some 82, .mov (.t 9), some (74, false)⟩,
 ⟨some 83, .mov (.t 10), some (74, false)⟩,
 ⟨some 84, .call 28 [(.t 75), (.t 79), (.t 80), (.t 81), (.t 82), (.t 83), (.c (Go.Value.bool true))] (.one (.sc .bool)), some (74, false)⟩,
 ⟨some 85, .lnot (.t 84), some (74, false)⟩,
 ⟨some 86, .pick (.t 74) (.c (Go.Value.bool true)) (.t 85), none⟩] [0, 1, 7, 86]) (.cond (.t 86) (.seq (.reg [⟨some 6, .mov (.c (Go.Value.bool false)), none⟩] [6]) .ret) .skip))
def L_CblkGrows_f : IFn := ⟨143, [.t 6], (.seq (.reg [⟨some 6, .mov (.c (Go.Value.bool false)), none⟩] [0, 1, 2]) (.seq (.seq (.reg [⟨some 20, .mov (.t 0), none⟩,
 ⟨some 21, .mov (.t 1), none⟩,
 ⟨some 22, .mov (.t 2), none⟩,
 ⟨some 23, .call 22 [(.t 20), (.t 21), (.t 22)] (.one (.sc .bool)), none⟩,
 ⟨some 24, .lnot (.t 23), none⟩] [0, 1, 2, 24]) (.cond (.t 24) (.seq (.reg [⟨some 25, .call 14 [] (.one (.sc .bool)), none⟩,
 ⟨some 6, .mov (.t 25), none⟩] [6]) .ret) .skip)) (.seq (.reg [⟨some 27, .mov (.t 0), none⟩,
 ⟨some 28, .mov (.t 1), none⟩,
 ⟨some 29, .mov (.t 2), none⟩,
 ⟨some 30, .call 23 [(.t 27), (.t 28), (.t 29)] (.tup [(.sc .ptr), (.sc .ptr)]), none⟩,
 ⟨some 26, .mov (.t 30), none⟩,
 ⟨some 31, .ext 0 (.t 26), none⟩,
 ⟨some 32, .ext 1 (.t 26), none⟩,
 ⟨some 7, .mov (.t 31), none⟩,
 ⟨some 8, .mov (.t 32), none⟩] [0, 1, 2, 7]) (.seq (.reg [⟨some 33, .mov (.t 2), none⟩,
 ⟨some 34, .len false (.t 33), none⟩,
 ⟨some 35, .mov (.t 0), none⟩,
 ⟨some 36, .bin .rem .i64 (.t 34) (.t 35), none⟩,
 ⟨some 37, .mov (.t 2), none⟩,
 ⟨some 38, .len false (.t 37), none⟩,
 ⟨some 39, .mov (.t 0), none⟩,
 ⟨some 40, .bin .add .i64 (.t 38) (.t 39), none⟩,
 ⟨some 41, .mov (.t 1), none⟩,
 ⟨some 42, .bin .rem .i64 (.t 40) (.t 41), none⟩,
 ⟨some 9, .mov (.t 36), none⟩,
 ⟨some 10, .mov (.t 42), none⟩] [0, 1, 7, 9, 10]) (.seq (.seq (.reg [⟨some 43, .mov (.t 7), none⟩,
 ⟨some 44, .mov (.t 9), none⟩,
 ⟨some 45, .mov (.t 10), none⟩,
 ⟨some 46, .call 25 [(.t 43), (.t 44), (.t 45)] (.one (.sc .bool)), none⟩] [0, 1, 7, 9, 10, 46]) (.cond (.t 46) (.seq (.reg [⟨some 47, .call 14 [] (.one (.sc .bool)), none⟩,
 ⟨some 6, .mov (.t 47), none⟩] [6]) .ret) .skip)) (.seq (.reg [⟨some 48, .mov (.t 7), none⟩,
 ⟨some 49, .mov (.t 0), none⟩,
 ⟨some 50, .mov (.t 1), none⟩,
 ⟨some 51, .call 26 [(.t 48), (.t 49), (.t 50), (.c (Go.Value.bool false))] (.one (.sc .slc)), none⟩,
 ⟨some 52, .mov (.t 7), none⟩,
 ⟨some 53, .mov (.t 0), none⟩,
 ⟨some 54, .mov (.t 1), none⟩,
 ⟨some 55, .call 26 [(.t 52), (.t 53), (.t 54), (.c (Go.Value.bool true))] (.one (.sc .slc)), none⟩,
 ⟨some 11, .mov (.t 51), none⟩,
 ⟨some 12, .mov (.t 55), none⟩] [0, 1, 7, 9, 10, 11, 12]) (.seq (.opq 0 [0, 1, 7, 9, 10, 11, 12] L_CblkGrows_i0) (.seq (.seq (.reg [⟨some 13, .mov (.c (Go.Value.int Go.IntKind.i64 0)), none⟩] [0, 1, 7, 13]) (.block 0 (.opq 1 [0, 1, 7, 13] (.loop L_CblkGrows_i1)))) (.seq (.reg [⟨some 142, .call 14 [] (.one (.sc .bool)), none⟩,
 ⟨some 6, .mov (.t 142), none⟩] [6]) .ret)))))))))⟩
theorem L_CblkGrows_e3 {R : Type} (L_small : Int → Int → Option Addr → Nat → Nat → (Bool → Option R) → Option R) (L_exampleHoldsq : (Bool → Option R) → Option R) (L_played : Int → Int → Option Addr → Nat → Nat → Heap → (Option Addr → Option Addr → Heap → Option R) → Option R) (cblk_Block_Significant : Option Addr → Int → Int → Heap → (Bool → Option R) → Option R) (L_counts : Option Addr → Int → Int → Bool → Heap → (Option Addr → Nat → Nat → Heap → Option R) → Option R) (cblk_Block_Mark : Option Addr → Int → Int → Heap → (Int → Heap → Option R) → Option R) (L_grown : Option Addr → Nat → Nat → Option Addr → Nat → Nat → Int → Int → Int → Int → Bool → Heap → (Bool → Heap → Option R) → Option R) (cblk_Block_Neighbors : Option Addr → Int → Int → Bool → Heap → (Int → Int → Int → Option R) → Option R) (cblk_Block_Signs : Option Addr → Int → Int → Bool → Heap → (Int → Int → Option R) → Option R) (L_CblkGrows_p0 : Int → Int → Option Addr → Int → Int → Option Addr → Nat → Nat → Option Addr → Nat → Nat → Heap → (Int → Int → Option Addr → Heap → Option R) → (Bool → Heap → Option R) → Option R) (L_CblkGrows_l1 : (Unit → Option R) → (Bool → Option R) → Nat → Int → Int → Option Addr → Int → Heap → Option R) (L_CblkGrows_l2 : (Int → Int → Option Addr → Int → Option R) → (Bool → Option R) → Nat → Int → Int → Option Addr → Int → Int → Heap → Option R) (L_CblkGrows_p3 : Int → Int → Option Addr → Int → Int → Heap → (Int → Int → Option Addr → Int → Int → Option R) → (Bool → Option R) → Option R) (k : Nat) (n486 : Int) (n487 : Int) (p488 : Option Addr) (n489 : Int) (n490 : Int) (H : Heap) (K : Xit → Env → Heap → Option R) : evJ (L_CblkGrows_Ct L_small L_exampleHoldsq L_played cblk_Block_Significant L_counts cblk_Block_Mark L_grown cblk_Block_Neighbors cblk_Block_Signs) (L_CblkGrows_Jt k L_CblkGrows_p0 L_CblkGrows_l1 L_CblkGrows_l2 L_CblkGrows_p3) L_CblkGrows_i3 (List.zip [0, 1, 7, 13, 14] [.int .i64 n486, .int .i64 n487, .pointer p488, .int .i64 n489, .int .i64 n490]) H (fun x e' H' => K x (clean e' ((⟨[0, 1, 7, 13, 14], [], [6]⟩ : Out).of x)) H') = L_CblkGrows_p3_b cblk_Block_Neighbors cblk_Block_Signs k n486 n487 p488 n489 n490 H (fun n1477 n1478 p1479 n1480 n1481 => K .normal [(0, .int .i64 n1477), (1, .int .i64 n1478), (7, .pointer p1479), (13, .int .i64 n1480), (14, .int .i64 n1481)] H) (fun t1482 => K .ret [(6, .bool t1482)] H) := by kernel_rfl
theorem L_CblkGrows_j3 {R : Type} (k : Nat) : JS Try.prog 143 (L_CblkGrows_a3 R k k) [0, 1, 7, 13, 14] ⟨[0, 1, 7, 13, 14], [], [6]⟩ (sel [1, 1, 1, 1, 1, 1, 1, 0, 1, 0, 0, 1, 0, 0, 1, 0, 0, 1, 0] (Try.f7.body.getD .skip)) :=
  piece_ok (nt := 143) (c := (sel [1, 1, 1, 1, 1, 1, 1, 0, 1, 0, 0, 1, 0, 0, 1, 0, 0, 1, 0] (Try.f7.body.getD .skip))) (C := L_CblkGrows_C R k) (an := An) (t := (.node (.seq (.reg [0, 1, 7, 13, 14, 15, 16] []) (.seq (.reg [0, 1, 7, 13, 14, 15, 16, 18, 19] []) (.seq (.reg [0, 1, 7, 13, 14, 141] []) (.cond (.seq (.reg [6] []) .leaf) .leaf)))))) (ic := L_CblkGrows_i3) (L_CblkGrows_S R k) (L_CblkGrows_J R k) (by kernel_rfl) (And.intro True.intro (And.intro True.intro (And.intro True.intro (And.intro (And.intro True.intro True.intro) True.intro)))) (L_CblkGrows_a3 R k k)
    (fun vals H K r h => by
      unfold L_CblkGrows_a3 L_CblkGrows_aa3 at h
      split at h <;> first | (cases h; done) | exact Eq.trans (L_CblkGrows_e3 L_small L_exampleHoldsq (L_played k) (cblk_Block_Significant k) (L_counts k) (cblk_Block_Mark k) (L_grown k) (cblk_Block_Neighbors k) (cblk_Block_Signs k) (L_CblkGrows_p0 k) (L_CblkGrows_l1 k) (L_CblkGrows_l2 k) (L_CblkGrows_p3 k) k _ _ _ _ _ H K) h)
theorem L_CblkGrows_e2 {R : Type} (L_small : Int → Int → Option Addr → Nat → Nat → (Bool → Option R) → Option R) (L_exampleHoldsq : (Bool → Option R) → Option R) (L_played : Int → Int → Option Addr → Nat → Nat → Heap → (Option Addr → Option Addr → Heap → Option R) → Option R) (cblk_Block_Significant : Option Addr → Int → Int → Heap → (Bool → Option R) → Option R) (L_counts : Option Addr → Int → Int → Bool → Heap → (Option Addr → Nat → Nat → Heap → Option R) → Option R) (cblk_Block_Mark : Option Addr → Int → Int → Heap → (Int → Heap → Option R) → Option R) (L_grown : Option Addr → Nat → Nat → Option Addr → Nat → Nat → Int → Int → Int → Int → Bool → Heap → (Bool → Heap → Option R) → Option R) (cblk_Block_Neighbors : Option Addr → Int → Int → Bool → Heap → (Int → Int → Int → Option R) → Option R) (cblk_Block_Signs : Option Addr → Int → Int → Bool → Heap → (Int → Int → Option R) → Option R) (L_CblkGrows_p0 : Int → Int → Option Addr → Int → Int → Option Addr → Nat → Nat → Option Addr → Nat → Nat → Heap → (Int → Int → Option Addr → Heap → Option R) → (Bool → Heap → Option R) → Option R) (L_CblkGrows_l1 : (Unit → Option R) → (Bool → Option R) → Nat → Int → Int → Option Addr → Int → Heap → Option R) (L_CblkGrows_l2 : (Int → Int → Option Addr → Int → Option R) → (Bool → Option R) → Nat → Int → Int → Option Addr → Int → Int → Heap → Option R) (L_CblkGrows_p3 : Int → Int → Option Addr → Int → Int → Heap → (Int → Int → Option Addr → Int → Int → Option R) → (Bool → Option R) → Option R) (k n : Nat) (n481 : Int) (n482 : Int) (p483 : Option Addr) (n484 : Int) (n485 : Int) (H : Heap) (K : Xit → Env → Heap → Option R) : evJ (L_CblkGrows_Ct L_small L_exampleHoldsq L_played cblk_Block_Significant L_counts cblk_Block_Mark L_grown cblk_Block_Neighbors cblk_Block_Signs) (L_CblkGrows_Jt k L_CblkGrows_p0 L_CblkGrows_l1 L_CblkGrows_l2 L_CblkGrows_p3) L_CblkGrows_i2 (List.zip [0, 1, 7, 13, 14] [.int .i64 n481, .int .i64 n482, .pointer p483, .int .i64 n484, .int .i64 n485]) H (fun x e' H' => match x with | .normal => L_CblkGrows_aa2 L_CblkGrows_l2 n ((clean e' [0, 1, 7, 13, 14]).map (·.2)) H' K | x => K x (clean e' ((⟨[], [(2, [0, 1, 7, 13])], [6]⟩ : Out).of x)) H') = L_CblkGrows_l2_b L_CblkGrows_p3 (L_CblkGrows_l2 (fun n1472 n1473 p1474 n1475 => K (.exit 2) [(0, .int .i64 n1472), (1, .int .i64 n1473), (7, .pointer p1474), (13, .int .i64 n1475)] H) (fun t1476 => K .ret [(6, .bool t1476)] H) n) (fun n1472 n1473 p1474 n1475 => K (.exit 2) [(0, .int .i64 n1472), (1, .int .i64 n1473), (7, .pointer p1474), (13, .int .i64 n1475)] H) (fun t1476 => K .ret [(6, .bool t1476)] H) k n481 n482 p483 n484 n485 H := by kernel_rfl
theorem L_CblkGrows_j2 {R : Type} (k : Nat) : JS Try.prog 143 (L_CblkGrows_a2 R k k) [0, 1, 7, 13, 14] ⟨[], [(2, [0, 1, 7, 13])], [6]⟩ (.loop (sel [1, 1, 1, 1, 1, 1, 1, 0, 1, 0, 0, 1, 0, 0, 1, 0, 0] (Try.f7.body.getD .skip))) :=
  loop_ok (nt := 143) (c := (sel [1, 1, 1, 1, 1, 1, 1, 0, 1, 0, 0, 1, 0, 0, 1, 0, 0] (Try.f7.body.getD .skip))) (C := L_CblkGrows_C R k) (an := An) (t := (.seq (.seq (.reg [0, 1, 7, 13, 14, 94] []) (.cond .leaf .leaf)) (.seq (.opq 3 [0, 1, 7, 13, 14] ⟨[0, 1, 7, 13, 14], [], [6]⟩ (.node (.seq (.reg [0, 1, 7, 13, 14, 15, 16] []) (.seq (.reg [0, 1, 7, 13, 14, 15, 16, 18, 19] []) (.seq (.reg [0, 1, 7, 13, 14, 141] []) (.cond (.seq (.reg [6] []) .leaf) .leaf)))))) (.reg [0, 1, 7, 13, 14] [])))) (ic := L_CblkGrows_i2) (L_CblkGrows_S R k) (L_CblkGrows_J R k) (by kernel_rfl) (And.intro (And.intro True.intro (And.intro True.intro True.intro)) (And.intro (L_CblkGrows_j3 k) True.intro)) (L_CblkGrows_a2 R k) (fun vals H K => by unfold L_CblkGrows_a2 L_CblkGrows_aa2; split <;> rfl)
    (fun n vals H K r h => by
      unfold L_CblkGrows_a2 L_CblkGrows_aa2 at h
      split at h <;> first | (cases h; done) | exact Eq.trans (L_CblkGrows_e2 L_small L_exampleHoldsq (L_played k) (cblk_Block_Significant k) (L_counts k) (cblk_Block_Mark k) (L_grown k) (cblk_Block_Neighbors k) (cblk_Block_Signs k) (L_CblkGrows_p0 k) (L_CblkGrows_l1 k) (L_CblkGrows_l2 k) (L_CblkGrows_p3 k) k n _ _ _ _ _ H K) h) k
theorem L_CblkGrows_e1 {R : Type} (L_small : Int → Int → Option Addr → Nat → Nat → (Bool → Option R) → Option R) (L_exampleHoldsq : (Bool → Option R) → Option R) (L_played : Int → Int → Option Addr → Nat → Nat → Heap → (Option Addr → Option Addr → Heap → Option R) → Option R) (cblk_Block_Significant : Option Addr → Int → Int → Heap → (Bool → Option R) → Option R) (L_counts : Option Addr → Int → Int → Bool → Heap → (Option Addr → Nat → Nat → Heap → Option R) → Option R) (cblk_Block_Mark : Option Addr → Int → Int → Heap → (Int → Heap → Option R) → Option R) (L_grown : Option Addr → Nat → Nat → Option Addr → Nat → Nat → Int → Int → Int → Int → Bool → Heap → (Bool → Heap → Option R) → Option R) (cblk_Block_Neighbors : Option Addr → Int → Int → Bool → Heap → (Int → Int → Int → Option R) → Option R) (cblk_Block_Signs : Option Addr → Int → Int → Bool → Heap → (Int → Int → Option R) → Option R) (L_CblkGrows_p0 : Int → Int → Option Addr → Int → Int → Option Addr → Nat → Nat → Option Addr → Nat → Nat → Heap → (Int → Int → Option Addr → Heap → Option R) → (Bool → Heap → Option R) → Option R) (L_CblkGrows_l1 : (Unit → Option R) → (Bool → Option R) → Nat → Int → Int → Option Addr → Int → Heap → Option R) (L_CblkGrows_l2 : (Int → Int → Option Addr → Int → Option R) → (Bool → Option R) → Nat → Int → Int → Option Addr → Int → Int → Heap → Option R) (L_CblkGrows_p3 : Int → Int → Option Addr → Int → Int → Heap → (Int → Int → Option Addr → Int → Int → Option R) → (Bool → Option R) → Option R) (k n : Nat) (n477 : Int) (n478 : Int) (p479 : Option Addr) (n480 : Int) (H : Heap) (K : Xit → Env → Heap → Option R) : evJ (L_CblkGrows_Ct L_small L_exampleHoldsq L_played cblk_Block_Significant L_counts cblk_Block_Mark L_grown cblk_Block_Neighbors cblk_Block_Signs) (L_CblkGrows_Jt k L_CblkGrows_p0 L_CblkGrows_l1 L_CblkGrows_l2 L_CblkGrows_p3) L_CblkGrows_i1 (List.zip [0, 1, 7, 13] [.int .i64 n477, .int .i64 n478, .pointer p479, .int .i64 n480]) H (fun x e' H' => match x with | .normal => L_CblkGrows_aa1 L_CblkGrows_l1 n ((clean e' [0, 1, 7, 13]).map (·.2)) H' K | x => K x (clean e' ((⟨[], [(0, [])], [6]⟩ : Out).of x)) H') = L_CblkGrows_l1_b L_CblkGrows_l2 (L_CblkGrows_l1 (fun _ => K (.exit 0) [] H) (fun t1471 => K .ret [(6, .bool t1471)] H) n) (fun _ => K (.exit 0) [] H) (fun t1471 => K .ret [(6, .bool t1471)] H) k n477 n478 p479 n480 H := by kernel_rfl
theorem L_CblkGrows_j1 {R : Type} (k : Nat) : JS Try.prog 143 (L_CblkGrows_a1 R k k) [0, 1, 7, 13] ⟨[], [(0, [])], [6]⟩ (.loop (sel [1, 1, 1, 1, 1, 1, 1, 0, 1, 0, 0] (Try.f7.body.getD .skip))) :=
  loop_ok (nt := 143) (c := (sel [1, 1, 1, 1, 1, 1, 1, 0, 1, 0, 0] (Try.f7.body.getD .skip))) (C := L_CblkGrows_C R k) (an := An) (t := (.seq (.seq (.reg [0, 1, 7, 13, 89] []) (.cond .leaf .leaf)) (.seq (.node (.seq (.reg [0, 1, 7, 13, 14] []) (.node (.opq 2 [0, 1, 7, 13, 14] ⟨[], [(2, [0, 1, 7, 13])], [6]⟩ (.node (.seq (.seq (.reg [0, 1, 7, 13, 14, 94] []) (.cond .leaf .leaf)) (.seq (.opq 3 [0, 1, 7, 13, 14] ⟨[0, 1, 7, 13, 14], [], [6]⟩ (.node (.seq (.reg [0, 1, 7, 13, 14, 15, 16] []) (.seq (.reg [0, 1, 7, 13, 14, 15, 16, 18, 19] []) (.seq (.reg [0, 1, 7, 13, 14, 141] []) (.cond (.seq (.reg [6] []) .leaf) .leaf)))))) (.reg [0, 1, 7, 13, 14] [])))))))) (.reg [0, 1, 7, 13] [])))) (ic := L_CblkGrows_i1) (L_CblkGrows_S R k) (L_CblkGrows_J R k) (by kernel_rfl) (And.intro (And.intro True.intro (And.intro True.intro True.intro)) (And.intro (And.intro True.intro (L_CblkGrows_j2 k)) True.intro)) (L_CblkGrows_a1 R k) (fun vals H K => by unfold L_CblkGrows_a1 L_CblkGrows_aa1; split <;> rfl)
    (fun n vals H K r h => by
      unfold L_CblkGrows_a1 L_CblkGrows_aa1 at h
      split at h <;> first | (cases h; done) | exact Eq.trans (L_CblkGrows_e1 L_small L_exampleHoldsq (L_played k) (cblk_Block_Significant k) (L_counts k) (cblk_Block_Mark k) (L_grown k) (cblk_Block_Neighbors k) (cblk_Block_Signs k) (L_CblkGrows_p0 k) (L_CblkGrows_l1 k) (L_CblkGrows_l2 k) (L_CblkGrows_p3 k) k n _ _ _ _ H K) h) k
theorem L_CblkGrows_e0 {R : Type} (L_small : Int → Int → Option Addr → Nat → Nat → (Bool → Option R) → Option R) (L_exampleHoldsq : (Bool → Option R) → Option R) (L_played : Int → Int → Option Addr → Nat → Nat → Heap → (Option Addr → Option Addr → Heap → Option R) → Option R) (cblk_Block_Significant : Option Addr → Int → Int → Heap → (Bool → Option R) → Option R) (L_counts : Option Addr → Int → Int → Bool → Heap → (Option Addr → Nat → Nat → Heap → Option R) → Option R) (cblk_Block_Mark : Option Addr → Int → Int → Heap → (Int → Heap → Option R) → Option R) (L_grown : Option Addr → Nat → Nat → Option Addr → Nat → Nat → Int → Int → Int → Int → Bool → Heap → (Bool → Heap → Option R) → Option R) (cblk_Block_Neighbors : Option Addr → Int → Int → Bool → Heap → (Int → Int → Int → Option R) → Option R) (cblk_Block_Signs : Option Addr → Int → Int → Bool → Heap → (Int → Int → Option R) → Option R) (L_CblkGrows_p0 : Int → Int → Option Addr → Int → Int → Option Addr → Nat → Nat → Option Addr → Nat → Nat → Heap → (Int → Int → Option Addr → Heap → Option R) → (Bool → Heap → Option R) → Option R) (L_CblkGrows_l1 : (Unit → Option R) → (Bool → Option R) → Nat → Int → Int → Option Addr → Int → Heap → Option R) (L_CblkGrows_l2 : (Int → Int → Option Addr → Int → Option R) → (Bool → Option R) → Nat → Int → Int → Option Addr → Int → Int → Heap → Option R) (L_CblkGrows_p3 : Int → Int → Option Addr → Int → Int → Heap → (Int → Int → Option Addr → Int → Int → Option R) → (Bool → Option R) → Option R) (k : Nat) (n444 : Int) (n445 : Int) (p446 : Option Addr) (n447 : Int) (n448 : Int) (q449 : Option Addr) (l450 : Nat) (c451 : Nat) (q452 : Option Addr) (l453 : Nat) (c454 : Nat) (H : Heap) (K : Xit → Env → Heap → Option R) : evJ (L_CblkGrows_Ct L_small L_exampleHoldsq L_played cblk_Block_Significant L_counts cblk_Block_Mark L_grown cblk_Block_Neighbors cblk_Block_Signs) (L_CblkGrows_Jt k L_CblkGrows_p0 L_CblkGrows_l1 L_CblkGrows_l2 L_CblkGrows_p3) L_CblkGrows_i0 (List.zip [0, 1, 7, 9, 10, 11, 12] [.int .i64 n444, .int .i64 n445, .pointer p446, .int .i64 n447, .int .i64 n448, .slice q449 l450 c451, .slice q452 l453 c454]) H (fun x e' H' => K x (clean e' ((⟨[0, 1, 7], [], [6]⟩ : Out).of x)) H') = L_CblkGrows_p0_b cblk_Block_Mark L_counts L_grown k n444 n445 p446 n447 n448 q449 l450 c451 q452 l453 c454 H (fun n1467 n1468 p1469 H => K .normal [(0, .int .i64 n1467), (1, .int .i64 n1468), (7, .pointer p1469)] H) (fun t1470 H => K .ret [(6, .bool t1470)] H) := by kernel_rfl
theorem L_CblkGrows_j0 {R : Type} (k : Nat) : JS Try.prog 143 (L_CblkGrows_a0 R k k) [0, 1, 7, 9, 10, 11, 12] ⟨[0, 1, 7], [], [6]⟩ (sel [1, 1, 1, 1, 1, 1, 0] (Try.f7.body.getD .skip)) :=
  piece_ok (nt := 143) (c := (sel [1, 1, 1, 1, 1, 1, 0] (Try.f7.body.getD .skip))) (C := L_CblkGrows_C R k) (an := An) (t := (.seq (.reg [0, 1, 7, 86] []) (.cond (.seq (.reg [6] []) .leaf) .leaf))) (ic := L_CblkGrows_i0) (L_CblkGrows_S R k) (L_CblkGrows_J R k) (by kernel_rfl) (And.intro True.intro (And.intro (And.intro True.intro True.intro) True.intro)) (L_CblkGrows_a0 R k k)
    (fun vals H K r h => by
      unfold L_CblkGrows_a0 L_CblkGrows_aa0 at h
      split at h <;> first | (cases h; done) | exact Eq.trans (L_CblkGrows_e0 L_small L_exampleHoldsq (L_played k) (cblk_Block_Significant k) (L_counts k) (cblk_Block_Mark k) (L_grown k) (cblk_Block_Neighbors k) (cblk_Block_Signs k) (L_CblkGrows_p0 k) (L_CblkGrows_l1 k) (L_CblkGrows_l2 k) (L_CblkGrows_p3 k) k _ _ _ _ _ _ _ _ _ _ _ H K) h)
def L_CblkGrows_ca {R : Type} (f : Int → Int → Option Addr → Nat → Nat → Heap → (Bool → Heap → Option R) → Option R) (args : List Value) (H : Heap) (K : Value → Heap → Option R) : Option R :=
  match args with
  | [.int .i64 n422, .int .i64 n423, .slice q424 l425 c426] => f n422 n423 q424 l425 c426 H (fun t1483 H => K (.bool t1483) H)
  | _ => none
def L_CblkGrows_c (R : Type) (k : Nat) (args : List Value) (H : Heap) (K : Value → Heap → Option R) : Option R := L_CblkGrows_ca (L_CblkGrows k) args H K
theorem L_CblkGrows_e {R : Type} (L_small : Int → Int → Option Addr → Nat → Nat → (Bool → Option R) → Option R) (L_exampleHoldsq : (Bool → Option R) → Option R) (L_played : Int → Int → Option Addr → Nat → Nat → Heap → (Option Addr → Option Addr → Heap → Option R) → Option R) (cblk_Block_Significant : Option Addr → Int → Int → Heap → (Bool → Option R) → Option R) (L_counts : Option Addr → Int → Int → Bool → Heap → (Option Addr → Nat → Nat → Heap → Option R) → Option R) (cblk_Block_Mark : Option Addr → Int → Int → Heap → (Int → Heap → Option R) → Option R) (L_grown : Option Addr → Nat → Nat → Option Addr → Nat → Nat → Int → Int → Int → Int → Bool → Heap → (Bool → Heap → Option R) → Option R) (cblk_Block_Neighbors : Option Addr → Int → Int → Bool → Heap → (Int → Int → Int → Option R) → Option R) (cblk_Block_Signs : Option Addr → Int → Int → Bool → Heap → (Int → Int → Option R) → Option R) (L_CblkGrows_p0 : Int → Int → Option Addr → Int → Int → Option Addr → Nat → Nat → Option Addr → Nat → Nat → Heap → (Int → Int → Option Addr → Heap → Option R) → (Bool → Heap → Option R) → Option R) (L_CblkGrows_l1 : (Unit → Option R) → (Bool → Option R) → Nat → Int → Int → Option Addr → Int → Heap → Option R) (L_CblkGrows_l2 : (Int → Int → Option Addr → Int → Option R) → (Bool → Option R) → Nat → Int → Int → Option Addr → Int → Int → Heap → Option R) (L_CblkGrows_p3 : Int → Int → Option Addr → Int → Int → Heap → (Int → Int → Option Addr → Int → Int → Option R) → (Bool → Option R) → Option R) (k : Nat) (n422 : Int) (n423 : Int) (q424 : Option Addr) (l425 : Nat) (c426 : Nat) (H : Heap) (K : Value → Heap → Option R) : evF (L_CblkGrows_Ct L_small L_exampleHoldsq L_played cblk_Block_Significant L_counts cblk_Block_Mark L_grown cblk_Block_Neighbors cblk_Block_Signs) (L_CblkGrows_Jt k L_CblkGrows_p0 L_CblkGrows_l1 L_CblkGrows_l2 L_CblkGrows_p3) L_CblkGrows_f [.int .i64 n422, .int .i64 n423, .slice q424 l425 c426] H K = L_CblkGrows_b L_small L_exampleHoldsq L_played cblk_Block_Significant L_counts L_CblkGrows_p0 L_CblkGrows_l1 k n422 n423 q424 l425 c426 H (fun t1483 H => K (.bool t1483) H) := by kernel_rfl
theorem L_CblkGrows_cs (R : Type) (k : Nat) : ∀ args H K r, L_CblkGrows_c R k args H K = some r → ∃ v H', Tri Try.prog 7 args H v H' ∧ K v H' = some r := by
  intro args H K r h
  unfold L_CblkGrows_c L_CblkGrows_ca at h
  split at h
  · exact evF_ok (C := L_CblkGrows_C R k) (an := An) (t := L_CblkGrows_at) (fn := Try.f7) (c := (Try.f7.body.getD .skip)) (ifn := L_CblkGrows_f) (L_CblkGrows_S R k) (L_CblkGrows_J R k) Try.func7 (by kernel_rfl) (by kernel_rfl) (And.intro True.intro (And.intro (And.intro True.intro (And.intro (And.intro True.intro True.intro) True.intro)) (And.intro True.intro (And.intro True.intro (And.intro (And.intro True.intro (And.intro (And.intro True.intro True.intro) True.intro)) (And.intro True.intro (And.intro (L_CblkGrows_j0 k) (And.intro (And.intro True.intro (L_CblkGrows_j1 k)) (And.intro True.intro True.intro))))))))) rfl (Eq.trans (L_CblkGrows_e L_small L_exampleHoldsq (L_played k) (cblk_Block_Significant k) (L_counts k) (cblk_Block_Mark k) (L_grown k) (cblk_Block_Neighbors k) (cblk_Block_Signs k) (L_CblkGrows_p0 k) (L_CblkGrows_l1 k) (L_CblkGrows_l2 k) (L_CblkGrows_p3 k) k _ _ _ _ _ H K) h)
  · cases h
end Go.Proofs.Ytblpaolcgkjcgaa.Sh
