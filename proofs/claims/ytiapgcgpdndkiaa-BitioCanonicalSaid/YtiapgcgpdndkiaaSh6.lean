/- Lean functions that stand for Go's, over an explicit heap, and the proofs that they do (written by this claim's program shallow.py). -/
import Derived.Test.YtiapgcgpdndkiaaSh0
import Derived.Test.YtiapgcgpdndkiaaSh1
import Derived.Test.YtiapgcgpdndkiaaSh2
set_option maxRecDepth 100000
set_option linter.unusedVariables false
set_option linter.unusedSimpArgs false
namespace Go.Proofs.Ytiapgcgpdndkiaa.Sh
open Go.Proofs.Ytiapgcgpdndkiaa.FW
/-! ### bitio_Reader_count: function 51 -/
def bitio_Reader_count_l0_b {R : Type} (bitio_Reader_get : Option Addr → Heap → (Int → Int → Heap → Option R) → Option R) (rec : Option Addr → Int → Int → Int → Heap → Option R) (KR : Int → Int → Heap → Option R) (k : Nat) (p511 : Option Addr) (n512 : Int) (n513 : Int) (n514 : Int) (H : Heap) : Option R :=
bitio_Reader_get p511 H fun n515 n516 H517 =>
bif (n516 != 0) then (KR 0 n516 H517)
 else (bif (n515 != n512) then (KR n514 0 H517)
 else (bif ((IntKind.wrap .i64 (n514 + 1)) == n513) then (KR 0 8 H517)
 else (rec p511 n512 n513 (IntKind.wrap .i64 (n514 + 1)) H517)))
def bitio_Reader_count_l0 {R : Type} (k : Nat) (KR : Int → Int → Heap → Option R) : Nat → Option Addr → Int → Int → Int → Heap → Option R
  | 0, _, _, _, _, _ => none
  | n + 1, p511, n512, n513, n514, H => bitio_Reader_count_l0_b (bitio_Reader_get k) (bitio_Reader_count_l0 k KR n) KR k p511 n512 n513 n514 H

def bitio_Reader_count_b {R : Type} (bitio_Reader_count_l0 : (Int → Int → Heap → Option R) → Nat → Option Addr → Int → Int → Int → Heap → Option R) (k : Nat) (p508 : Option Addr) (n509 : Int) (n510 : Int) (H : Heap) (K : Int → Int → Heap → Option R) : Option R :=
bitio_Reader_count_l0 (fun n520 n521 H522 =>
K n520 n521 H522) k p508 n509 n510 0 H

def bitio_Reader_count {R : Type} (k : Nat) (p508 : Option Addr) (n509 : Int) (n510 : Int) (H : Heap) (K : Int → Int → Heap → Option R) : Option R := bitio_Reader_count_b (bitio_Reader_count_l0 k) k p508 n509 n510 H K

def bitio_Reader_count_Ct {R : Type} (bitio_Reader_get : Option Addr → Heap → (Int → Int → Heap → Option R) → Option R) : Tab R := tcons 39 (bitio_Reader_get_ca bitio_Reader_get) <| fun _ _ _ _ => none
def bitio_Reader_count_C (R : Type) (k : Nat) : Tab R := bitio_Reader_count_Ct (bitio_Reader_get k)
theorem bitio_Reader_count_S (R : Type) (k : Nat) : CSound Try.prog (bitio_Reader_count_C R k) := csound_cons (bitio_Reader_get_cs R k) <| csound_nil
def bitio_Reader_count_aa0 {R : Type} (f : (Int → Int → Heap → Option R) → Nat → Option Addr → Int → Int → Int → Heap → Option R) (n : Nat) (vals : List Value) (H : Heap) (K : Xit → Env → Heap → Option R) : Option R :=
  match vals with
  | [.pointer p511, .int .i64 n512, .int .i64 n513, .int .i64 n514] => f (fun n963 n964 H => K .ret [(6, .int .i64 n963), (7, .int .i64 n964)] H) n p511 n512 n513 n514 H
  | _ => none
def bitio_Reader_count_a0 (R : Type) (k n : Nat) (vals : List Value) (H : Heap) (K : Xit → Env → Heap → Option R) : Option R := bitio_Reader_count_aa0 (bitio_Reader_count_l0 k) n vals H K
def bitio_Reader_count_Jt {R : Type} (k : Nat) (bitio_Reader_count_l0 : (Int → Int → Heap → Option R) → Nat → Option Addr → Int → Int → Int → Heap → Option R) : JTab R := tcons 0 (bitio_Reader_count_aa0 bitio_Reader_count_l0 k) <| fun _ _ _ _ => none
def bitio_Reader_count_J (R : Type) (k : Nat) : JTab R := bitio_Reader_count_Jt k (bitio_Reader_count_l0 k)
def bitio_Reader_count_at : AT := (.seq (.reg [0, 1, 2] []) (.seq (.reg [0, 1, 2, 8] []) (.node (.opq 0 [0, 1, 2, 8] ⟨[], [], [6, 7]⟩ (.node (.node (.seq (.reg [0, 1, 2, 8, 9, 10] []) (.seq (.seq (.reg [0, 1, 2, 8, 9, 10, 17] []) (.cond (.seq (.reg [6, 7] []) .leaf) .leaf)) (.seq (.seq (.reg [0, 1, 2, 8, 21] []) (.cond (.seq (.reg [6, 7] []) .leaf) .leaf)) (.seq (.reg [0, 1, 2, 8] []) (.seq (.reg [0, 1, 2, 8, 27] []) (.cond (.seq (.reg [6, 7] []) .leaf) .leaf))))))))))))
def bitio_Reader_count_i0 : IC := (.block 1 (.seq (.reg [⟨some 12, .mov (.t 0), none⟩,
 ⟨some 13, .call 39 [(.t 12)] (.tup [(.sc (.int .i64)), (.sc (.int .i64))]), none⟩,
 ⟨some 11, .mov (.t 13), none⟩,
 ⟨some 14, .ext 0 (.t 11), none⟩,
 ⟨some 15, .ext 1 (.t 11), none⟩,
 ⟨some 9, .mov (.t 14), none⟩,
 ⟨some 10, .mov (.t 15), none⟩] [0, 1, 2, 8, 9, 10]) (.seq (.seq (.reg [⟨some 16, .mov (.t 10), none⟩,
 ⟨some 17, .cmp .neq (.t 16) (.c (Go.Value.int Go.IntKind.i64 0)), none⟩] [0, 1, 2, 8, 9, 10, 17]) (.cond (.t 17) (.seq (.reg [⟨some 18, .mov (.t 10), none⟩,
 ⟨some 6, .mov (.c (Go.Value.int Go.IntKind.i64 0)), none⟩,
 ⟨some 7, .mov (.t 18), none⟩] [6, 7]) .ret) .skip)) (.seq (.seq (.reg [⟨some 19, .mov (.t 9), none⟩,
 ⟨some 20, .mov (.t 1), none⟩,
 ⟨some 21, .cmp .neq (.t 19) (.t 20), none⟩] [0, 1, 2, 8, 21]) (.cond (.t 21) (.seq (.reg [⟨some 22, .mov (.t 8), none⟩,
 ⟨some 6, .mov (.t 22), none⟩,
 ⟨some 7, .mov (.c (Go.Value.int Go.IntKind.i64 0)), none⟩] [6, 7]) .ret) .skip)) (.seq (.reg [⟨some 23, .mov (.t 8), none⟩,
 ⟨some 24, .bin .add .i64 (.t 23) (.c (Go.Value.int Go.IntKind.i64 1)), none⟩,
 ⟨some 8, .mov (.t 24), none⟩] [0, 1, 2, 8]) (.seq (.reg [⟨some 25, .mov (.t 8), none⟩,
 ⟨some 26, .mov (.t 2), none⟩,
 ⟨some 27, .cmp .eql (.t 25) (.t 26), none⟩] [0, 1, 2, 8, 27]) (.cond (.t 27) (.seq (.reg [⟨some 6, .mov (.c (Go.Value.int Go.IntKind.i64 0)), none⟩,
 ⟨some 7, .mov (.c (Go.Value.int Go.IntKind.i64 8)), none⟩] [6, 7]) .ret) .skip)))))))
def bitio_Reader_count_f : IFn := ⟨28, [.t 6, .t 7], (.seq (.reg [⟨some 6, .mov (.c (Go.Value.int Go.IntKind.i64 0)), none⟩,
 ⟨some 7, .mov (.c (Go.Value.int Go.IntKind.i64 0)), none⟩] [0, 1, 2]) (.seq (.reg [⟨some 8, .mov (.c (Go.Value.int Go.IntKind.i64 0)), none⟩] [0, 1, 2, 8]) (.block 0 (.opq 0 [0, 1, 2, 8] (.loop bitio_Reader_count_i0)))))⟩
theorem bitio_Reader_count_e0 {R : Type} (bitio_Reader_get : Option Addr → Heap → (Int → Int → Heap → Option R) → Option R) (bitio_Reader_count_l0 : (Int → Int → Heap → Option R) → Nat → Option Addr → Int → Int → Int → Heap → Option R) (k n : Nat) (p511 : Option Addr) (n512 : Int) (n513 : Int) (n514 : Int) (H : Heap) (K : Xit → Env → Heap → Option R) : evJ (bitio_Reader_count_Ct bitio_Reader_get) (bitio_Reader_count_Jt k bitio_Reader_count_l0) bitio_Reader_count_i0 (List.zip [0, 1, 2, 8] [.pointer p511, .int .i64 n512, .int .i64 n513, .int .i64 n514]) H (fun x e' H' => match x with | .normal => bitio_Reader_count_aa0 bitio_Reader_count_l0 n ((clean e' [0, 1, 2, 8]).map (·.2)) H' K | x => K x (clean e' ((⟨[], [], [6, 7]⟩ : Out).of x)) H') = bitio_Reader_count_l0_b bitio_Reader_get (bitio_Reader_count_l0 (fun n963 n964 H => K .ret [(6, .int .i64 n963), (7, .int .i64 n964)] H) n) (fun n963 n964 H => K .ret [(6, .int .i64 n963), (7, .int .i64 n964)] H) k p511 n512 n513 n514 H := by kernel_rfl
theorem bitio_Reader_count_j0 {R : Type} (k : Nat) : JS Try.prog 28 (bitio_Reader_count_a0 R k k) [0, 1, 2, 8] ⟨[], [], [6, 7]⟩ (.loop (sel [1, 1, 0, 0] (Try.f51.body.getD .skip))) :=
  loop_ok (nt := 28) (c := (sel [1, 1, 0, 0] (Try.f51.body.getD .skip))) (C := bitio_Reader_count_C R k) (an := An) (t := (.node (.seq (.reg [0, 1, 2, 8, 9, 10] []) (.seq (.seq (.reg [0, 1, 2, 8, 9, 10, 17] []) (.cond (.seq (.reg [6, 7] []) .leaf) .leaf)) (.seq (.seq (.reg [0, 1, 2, 8, 21] []) (.cond (.seq (.reg [6, 7] []) .leaf) .leaf)) (.seq (.reg [0, 1, 2, 8] []) (.seq (.reg [0, 1, 2, 8, 27] []) (.cond (.seq (.reg [6, 7] []) .leaf) .leaf)))))))) (ic := bitio_Reader_count_i0) (bitio_Reader_count_S R k) (bitio_Reader_count_J R k) (by kernel_rfl) (And.intro True.intro (And.intro (And.intro True.intro (And.intro (And.intro True.intro True.intro) True.intro)) (And.intro (And.intro True.intro (And.intro (And.intro True.intro True.intro) True.intro)) (And.intro True.intro (And.intro True.intro (And.intro (And.intro True.intro True.intro) True.intro)))))) (bitio_Reader_count_a0 R k) (fun vals H K => by unfold bitio_Reader_count_a0 bitio_Reader_count_aa0; split <;> rfl)
    (fun n vals H K r h => by
      unfold bitio_Reader_count_a0 bitio_Reader_count_aa0 at h
      split at h <;> first | (cases h; done) | exact Eq.trans (bitio_Reader_count_e0 (bitio_Reader_get k) (bitio_Reader_count_l0 k) k n _ _ _ _ H K) h) k
def bitio_Reader_count_ca {R : Type} (f : Option Addr → Int → Int → Heap → (Int → Int → Heap → Option R) → Option R) (args : List Value) (H : Heap) (K : Value → Heap → Option R) : Option R :=
  match args with
  | [.pointer p508, .int .i64 n509, .int .i64 n510] => f p508 n509 n510 H (fun n965 n966 H => K (.tuple ⟨[.int .i64 n965, .int .i64 n966]⟩) H)
  | _ => none
def bitio_Reader_count_c (R : Type) (k : Nat) (args : List Value) (H : Heap) (K : Value → Heap → Option R) : Option R := bitio_Reader_count_ca (bitio_Reader_count k) args H K
theorem bitio_Reader_count_e {R : Type} (bitio_Reader_get : Option Addr → Heap → (Int → Int → Heap → Option R) → Option R) (bitio_Reader_count_l0 : (Int → Int → Heap → Option R) → Nat → Option Addr → Int → Int → Int → Heap → Option R) (k : Nat) (p508 : Option Addr) (n509 : Int) (n510 : Int) (H : Heap) (K : Value → Heap → Option R) : evF (bitio_Reader_count_Ct bitio_Reader_get) (bitio_Reader_count_Jt k bitio_Reader_count_l0) bitio_Reader_count_f [.pointer p508, .int .i64 n509, .int .i64 n510] H K = bitio_Reader_count_b bitio_Reader_count_l0 k p508 n509 n510 H (fun n965 n966 H => K (.tuple ⟨[.int .i64 n965, .int .i64 n966]⟩) H) := by kernel_rfl
theorem bitio_Reader_count_cs (R : Type) (k : Nat) : ∀ args H K r, bitio_Reader_count_c R k args H K = some r → ∃ v H', Tri Try.prog 51 args H v H' ∧ K v H' = some r := by
  intro args H K r h
  unfold bitio_Reader_count_c bitio_Reader_count_ca at h
  split at h
  · exact evF_ok (C := bitio_Reader_count_C R k) (an := An) (t := bitio_Reader_count_at) (fn := Try.f51) (c := (Try.f51.body.getD .skip)) (ifn := bitio_Reader_count_f) (bitio_Reader_count_S R k) (bitio_Reader_count_J R k) Try.func51 (by kernel_rfl) (by kernel_rfl) (And.intro True.intro (And.intro True.intro (bitio_Reader_count_j0 k))) rfl (Eq.trans (bitio_Reader_count_e (bitio_Reader_get k) (bitio_Reader_count_l0 k) k _ _ _ H K) h)
  · cases h
/-! ### bitio_Reader_Gamma_1: function 50 -/
def bitio_Reader_Gamma_1_b {R : Type} (bitio_Reader_count : Option Addr → Int → Int → Heap → (Int → Int → Heap → Option R) → Option R) (bitio_Reader_bits : Option Addr → Int → Heap → (Int → Int → Heap → Option R) → Option R) (k : Nat) (p506 : Option Addr) (H : Heap) (K : Int → Int → Heap → Option R) : Option R :=
ldP H p506 fun p507 =>
bitio_Reader_count p507 0 32 H fun n508 n509 H510 =>
bif (n509 != 0) then (K 0 n509 H510)
 else (ldP H510 p506 fun p511 =>
bitio_Reader_bits p511 n508 H510 fun n512 n513 H514 =>
hbin .shl .i64 1 (IntKind.wrap .u64 n508) fun n515 =>
hbin .or .i64 n515 n512 fun n516 =>
K n516 n513 H514)

def bitio_Reader_Gamma_1 {R : Type} (k : Nat) (p506 : Option Addr) (H : Heap) (K : Int → Int → Heap → Option R) : Option R := bitio_Reader_Gamma_1_b (bitio_Reader_count k) (bitio_Reader_bits k) k p506 H K

def bitio_Reader_Gamma_1_Ct {R : Type} (bitio_Reader_count : Option Addr → Int → Int → Heap → (Int → Int → Heap → Option R) → Option R) (bitio_Reader_bits : Option Addr → Int → Heap → (Int → Int → Heap → Option R) → Option R) : Tab R := tcons 51 (bitio_Reader_count_ca bitio_Reader_count) <| tcons 49 (bitio_Reader_bits_ca bitio_Reader_bits) <| fun _ _ _ _ => none
def bitio_Reader_Gamma_1_C (R : Type) (k : Nat) : Tab R := bitio_Reader_Gamma_1_Ct (bitio_Reader_count k) (bitio_Reader_bits k)
theorem bitio_Reader_Gamma_1_S (R : Type) (k : Nat) : CSound Try.prog (bitio_Reader_Gamma_1_C R k) := csound_cons (bitio_Reader_count_cs R k) <| csound_cons (bitio_Reader_bits_cs R k) <| csound_nil
def bitio_Reader_Gamma_1_Jt {R : Type} (k : Nat) : JTab R := fun _ _ _ _ => none
def bitio_Reader_Gamma_1_J (R : Type) (k : Nat) : JTab R := bitio_Reader_Gamma_1_Jt k
def bitio_Reader_Gamma_1_at : AT := (.seq (.reg [0] []) (.seq (.reg [0, 3, 4] []) (.seq (.seq (.reg [0, 3, 4, 12] []) (.cond (.seq (.reg [1, 2] []) .leaf) .leaf)) (.seq (.reg [3, 4, 5] []) (.seq (.reg [1, 2] []) .leaf)))))
def bitio_Reader_Gamma_1_f : IFn := ⟨26, [.t 1, .t 2], (.seq (.reg [⟨some 1, .mov (.c (Go.Value.int Go.IntKind.i64 0)), none⟩,
 ⟨some 2, .mov (.c (Go.Value.int Go.IntKind.i64 0)), none⟩] [0]) (.seq (.reg [⟨some 7, .ld (.sc .ptr) (.t 0), none⟩,
 ⟨some 8, .call 51 [(.t 7), (.c (Go.Value.int Go.IntKind.i64 0)), (.c (Go.Value.int Go.IntKind.i64 32))] (.tup [(.sc (.int .i64)), (.sc (.int .i64))]), none⟩,
 ⟨some 6, .mov (.t 8), none⟩,
 ⟨some 9, .ext 0 (.t 6), none⟩,
 ⟨some 10, .ext 1 (.t 6), none⟩,
 ⟨some 3, .mov (.t 9), none⟩,
 ⟨some 4, .mov (.t 10), none⟩] [0, 3, 4]) (.seq (.seq (.reg [⟨some 11, .mov (.t 4), none⟩,
 ⟨some 12, .cmp .neq (.t 11) (.c (Go.Value.int Go.IntKind.i64 0)), none⟩] [0, 3, 4, 12]) (.cond (.t 12) (.seq (.reg [⟨some 13, .mov (.t 4), none⟩,
 ⟨some 1, .mov (.c (Go.Value.int Go.IntKind.i64 0)), none⟩,
 ⟨some 2, .mov (.t 13), none⟩] [1, 2]) .ret) .skip)) (.seq (.reg [⟨some 15, .ld (.sc .ptr) (.t 0), none⟩,
 ⟨some 16, .mov (.t 3), none⟩,
 ⟨some 17, .call 49 [(.t 15), (.t 16)] (.tup [(.sc (.int .i64)), (.sc (.int .i64))]), none⟩,
 ⟨some 14, .mov (.t 17), none⟩,
 ⟨some 18, .ext 0 (.t 14), none⟩,
 ⟨some 19, .ext 1 (.t 14), none⟩,
 ⟨some 5, .mov (.t 18), none⟩,
 ⟨some 4, .mov (.t 19), none⟩] [3, 4, 5]) (.seq (.reg [⟨some 20, .mov (.t 3), none⟩,
 ⟨some 21, .cnv .u64 (.t 20), none⟩,
 ⟨some 22, .bin .shl .i64 (.c (Go.Value.int Go.IntKind.i64 1)) (.t 21), none⟩,
 ⟨some 23, .mov (.t 5), none⟩,
 ⟨some 24, .bin .or .i64 (.t 22) (.t 23), none⟩,
 ⟨some 25, .mov (.t 4), none⟩,
 ⟨some 1, .mov (.t 24), none⟩,
 ⟨some 2, .mov (.t 25), none⟩] [1, 2]) .ret)))))⟩
def bitio_Reader_Gamma_1_ca {R : Type} (f : Option Addr → Heap → (Int → Int → Heap → Option R) → Option R) (args : List Value) (H : Heap) (K : Value → Heap → Option R) : Option R :=
  match args with
  | [.pointer p506] => f p506 H (fun n967 n968 H => K (.tuple ⟨[.int .i64 n967, .int .i64 n968]⟩) H)
  | _ => none
def bitio_Reader_Gamma_1_c (R : Type) (k : Nat) (args : List Value) (H : Heap) (K : Value → Heap → Option R) : Option R := bitio_Reader_Gamma_1_ca (bitio_Reader_Gamma_1 k) args H K
theorem bitio_Reader_Gamma_1_e {R : Type} (bitio_Reader_count : Option Addr → Int → Int → Heap → (Int → Int → Heap → Option R) → Option R) (bitio_Reader_bits : Option Addr → Int → Heap → (Int → Int → Heap → Option R) → Option R) (k : Nat) (p506 : Option Addr) (H : Heap) (K : Value → Heap → Option R) : evF (bitio_Reader_Gamma_1_Ct bitio_Reader_count bitio_Reader_bits) (bitio_Reader_Gamma_1_Jt k) bitio_Reader_Gamma_1_f [.pointer p506] H K = bitio_Reader_Gamma_1_b bitio_Reader_count bitio_Reader_bits k p506 H (fun n967 n968 H => K (.tuple ⟨[.int .i64 n967, .int .i64 n968]⟩) H) := by kernel_rfl
theorem bitio_Reader_Gamma_1_cs (R : Type) (k : Nat) : ∀ args H K r, bitio_Reader_Gamma_1_c R k args H K = some r → ∃ v H', Tri Try.prog 50 args H v H' ∧ K v H' = some r := by
  intro args H K r h
  unfold bitio_Reader_Gamma_1_c bitio_Reader_Gamma_1_ca at h
  split at h
  · exact evF_ok (C := bitio_Reader_Gamma_1_C R k) (an := An) (t := bitio_Reader_Gamma_1_at) (fn := Try.f50) (c := (Try.f50.body.getD .skip)) (ifn := bitio_Reader_Gamma_1_f) (bitio_Reader_Gamma_1_S R k) (bitio_Reader_Gamma_1_J R k) Try.func50 (by kernel_rfl) (by kernel_rfl) (And.intro True.intro (And.intro True.intro (And.intro (And.intro True.intro (And.intro (And.intro True.intro True.intro) True.intro)) (And.intro True.intro (And.intro True.intro True.intro))))) rfl (Eq.trans (bitio_Reader_Gamma_1_e (bitio_Reader_count k) (bitio_Reader_bits k) k _ H K) h)
  · cases h
/-! ### bitio_Reader_whole_v50: function 47 -/
def bitio_Reader_whole_v50_b {R : Type} (bitio_Reader_Gamma_1 : Option Addr → Heap → (Int → Int → Heap → Option R) → Option R) (k : Nat) (p498 : Option Addr) (p499 : Option Addr) (H : Heap) (K : Int → Int → Heap → Option R) : Option R :=
hnil p498 fun p500 =>
hfad 2 p500 fun p501 =>
ldI .i64 H p501 fun n502 =>
hnil p498 fun p503 =>
hfad 3 p503 fun p504 =>
ldI .i64 H p504 fun n505 =>
bitio_Reader_Gamma_1 p499 H fun n506 n507 H508 =>
bif (n507 != 0) then (hnil p498 fun p509 =>
hfad 2 p509 fun p510 =>
hst1 H508 p510 (.int .i64 n502) fun H511 =>
hnil p498 fun p512 =>
hfad 3 p512 fun p513 =>
hst1 H511 p513 (.int .i64 n505) fun H514 =>
K 0 n507 H514)
 else (K n506 0 H508)

def bitio_Reader_whole_v50 {R : Type} (k : Nat) (p498 : Option Addr) (p499 : Option Addr) (H : Heap) (K : Int → Int → Heap → Option R) : Option R := bitio_Reader_whole_v50_b (bitio_Reader_Gamma_1 k) k p498 p499 H K

def bitio_Reader_whole_v50_Ct {R : Type} (bitio_Reader_Gamma_1 : Option Addr → Heap → (Int → Int → Heap → Option R) → Option R) : Tab R := tcons 50 (bitio_Reader_Gamma_1_ca bitio_Reader_Gamma_1) <| fun _ _ _ _ => none
def bitio_Reader_whole_v50_C (R : Type) (k : Nat) : Tab R := bitio_Reader_whole_v50_Ct (bitio_Reader_Gamma_1 k)
theorem bitio_Reader_whole_v50_S (R : Type) (k : Nat) : CSound Try.prog (bitio_Reader_whole_v50_C R k) := csound_cons (bitio_Reader_Gamma_1_cs R k) <| csound_nil
def bitio_Reader_whole_v50_Jt {R : Type} (k : Nat) : JTab R := fun _ _ _ _ => none
def bitio_Reader_whole_v50_J (R : Type) (k : Nat) : JTab R := bitio_Reader_whole_v50_Jt k
def bitio_Reader_whole_v50_at : AT := (.seq (.reg [0, 1] []) (.seq (.reg [0, 1, 6, 7] [[], [0], [0, 1], [0, 1, 2], [], [4], [4, 5], [4, 5, 6], [0, 1, 2, 3], [0, 1, 2, 3, 4, 5, 6, 7, 8]]) (.seq (.reg [0, 6, 7, 8, 9] []) (.seq (.seq (.reg [0, 6, 7, 8, 9, 24] []) (.cond (.seq (.reg [9] []) (.seq (.reg [4, 5] []) .leaf)) .leaf)) (.seq (.reg [4, 5] []) .leaf)))))
def bitio_Reader_whole_v50_f : IFn := ⟨35, [.t 4, .t 5], (.seq (.reg [⟨some 4, .mov (.c (Go.Value.int Go.IntKind.i64 0)), none⟩,
 ⟨some 5, .mov (.c (Go.Value.int Go.IntKind.i64 0)), none⟩] [0, 1]) (.seq (.reg [⟨some 10, .mov (.t 0), none⟩,
 ⟨some 11, .nilc (.t 10), none⟩,
 ⟨some 12, .fad 2 (.t 11), none⟩,
 ⟨some 13, .ld (.sc (.int .i64)) (.t 12), none⟩,
 ⟨some 14, .mov (.t 0), none⟩,
 ⟨some 15, .nilc (.t 14), none⟩,
 ⟨some 16, .fad 3 (.t 15), none⟩,
 ⟨some 17, .ld (.sc (.int .i64)) (.t 16), none⟩,
 ⟨some 6, .mov (.t 13), none⟩,
 ⟨some 7, .mov (.t 17), none⟩] [0, 1, 6, 7]) (.seq (.reg [⟨some 19, .mov (.t 1), none⟩,
 ⟨some 20, .calv (.t 19) [] (.tup [(.sc (.int .i64)), (.sc (.int .i64))]), none⟩,
 ⟨some 18, .mov (.t 20), none⟩,
 ⟨some 21, .ext 0 (.t 18), none⟩,
 ⟨some 22, .ext 1 (.t 18), none⟩,
 ⟨some 8, .mov (.t 21), none⟩,
 ⟨some 9, .mov (.t 22), none⟩] [0, 6, 7, 8, 9]) (.seq (.seq (.reg [⟨some 23, .mov (.t 9), none⟩,
 ⟨some 24, .cmp .neq (.t 23) (.c (Go.Value.int Go.IntKind.i64 0)), none⟩] [0, 6, 7, 8, 9, 24]) (.cond (.t 24) (.seq (.reg [⟨some 25, .mov (.t 0), none⟩,
 ⟨some 26, .mov (.t 0), none⟩,
 ⟨some 27, .mov (.t 6), none⟩,
 ⟨some 28, .mov (.t 7), none⟩,
 ⟨some 29, .nilc (.t 25), none⟩,
 ⟨some 30, .fad 2 (.t 29), none⟩,
 ⟨none, .st 1 (.t 30) (.t 27), none⟩,
 ⟨some 31, .nilc (.t 26), none⟩,
 ⟨some 32, .fad 3 (.t 31), none⟩,
 ⟨none, .st 1 (.t 32) (.t 28), none⟩] [9]) (.seq (.reg [⟨some 33, .mov (.t 9), none⟩,
 ⟨some 4, .mov (.c (Go.Value.int Go.IntKind.i64 0)), none⟩,
 ⟨some 5, .mov (.t 33), none⟩] [4, 5]) .ret)) .skip)) (.seq (.reg [⟨some 34, .mov (.t 8), none⟩,
 ⟨some 4, .mov (.t 34), none⟩,
 ⟨some 5, .mov (.c (Go.Value.int Go.IntKind.i64 0)), none⟩] [4, 5]) .ret)))))⟩
def bitio_Reader_whole_v50_ca {R : Type} (f : Option Addr → Option Addr → Heap → (Int → Int → Heap → Option R) → Option R) (args : List Value) (H : Heap) (K : Value → Heap → Option R) : Option R :=
  match args with
  | [.pointer p498, .func (.func 50) ⟨[]⟩ ⟨[.pointer p499]⟩] => f p498 p499 H (fun n969 n970 H => K (.tuple ⟨[.int .i64 n969, .int .i64 n970]⟩) H)
  | _ => none
def bitio_Reader_whole_v50_c (R : Type) (k : Nat) (args : List Value) (H : Heap) (K : Value → Heap → Option R) : Option R := bitio_Reader_whole_v50_ca (bitio_Reader_whole_v50 k) args H K
theorem bitio_Reader_whole_v50_e {R : Type} (bitio_Reader_Gamma_1 : Option Addr → Heap → (Int → Int → Heap → Option R) → Option R) (k : Nat) (p498 : Option Addr) (p499 : Option Addr) (H : Heap) (K : Value → Heap → Option R) : evF (bitio_Reader_whole_v50_Ct bitio_Reader_Gamma_1) (bitio_Reader_whole_v50_Jt k) bitio_Reader_whole_v50_f [.pointer p498, .func (.func 50) ⟨[]⟩ ⟨[.pointer p499]⟩] H K = bitio_Reader_whole_v50_b bitio_Reader_Gamma_1 k p498 p499 H (fun n969 n970 H => K (.tuple ⟨[.int .i64 n969, .int .i64 n970]⟩) H) := by kernel_rfl
theorem bitio_Reader_whole_v50_cs (R : Type) (k : Nat) : ∀ args H K r, bitio_Reader_whole_v50_c R k args H K = some r → ∃ v H', Tri Try.prog 47 args H v H' ∧ K v H' = some r := by
  intro args H K r h
  unfold bitio_Reader_whole_v50_c bitio_Reader_whole_v50_ca at h
  split at h
  · exact evF_ok (C := bitio_Reader_whole_v50_C R k) (an := An) (t := bitio_Reader_whole_v50_at) (fn := Try.f47) (c := (Try.f47.body.getD .skip)) (ifn := bitio_Reader_whole_v50_f) (bitio_Reader_whole_v50_S R k) (bitio_Reader_whole_v50_J R k) Try.func47 (by kernel_rfl) (by kernel_rfl) (And.intro True.intro (And.intro True.intro (And.intro True.intro (And.intro (And.intro True.intro (And.intro (And.intro True.intro (And.intro True.intro True.intro)) True.intro)) (And.intro True.intro True.intro))))) rfl (Eq.trans (bitio_Reader_whole_v50_e (bitio_Reader_Gamma_1 k) k _ _ H K) h)
  · cases h
/-! ### bitio_Reader_Gamma: function 41 -/
def bitio_Reader_Gamma_b {R : Type} (bitio_Reader_ok : Option Addr → Heap → (Bool → Option R) → Option R) (bitio_Reader_whole_v50 : Option Addr → Option Addr → Heap → (Int → Int → Heap → Option R) → Option R) (k : Nat) (p492 : Option Addr) (H : Heap) (K : Int → Int → Heap → Option R) : Option R :=
hal H [.pointer p492] fun p493 H494 =>
ldP H494 p493 fun p495 =>
bitio_Reader_ok p495 H494 fun t496 =>
bif (!t496) then (K 0 6 H494)
 else (ldP H494 p493 fun p497 =>
bitio_Reader_whole_v50 p497 p493 H494 fun n498 n499 H500 =>
K n498 n499 H500)

def bitio_Reader_Gamma {R : Type} (k : Nat) (p492 : Option Addr) (H : Heap) (K : Int → Int → Heap → Option R) : Option R := bitio_Reader_Gamma_b bitio_Reader_ok (bitio_Reader_whole_v50 k) k p492 H K

def bitio_Reader_Gamma_Ct {R : Type} (bitio_Reader_ok : Option Addr → Heap → (Bool → Option R) → Option R) (bitio_Reader_whole_v50 : Option Addr → Option Addr → Heap → (Int → Int → Heap → Option R) → Option R) : Tab R := tcons 38 (bitio_Reader_ok_ca bitio_Reader_ok) <| tcons 47 (bitio_Reader_whole_v50_ca bitio_Reader_whole_v50) <| fun _ _ _ _ => none
def bitio_Reader_Gamma_C (R : Type) (k : Nat) : Tab R := bitio_Reader_Gamma_Ct bitio_Reader_ok (bitio_Reader_whole_v50 k)
theorem bitio_Reader_Gamma_S (R : Type) (k : Nat) : CSound Try.prog (bitio_Reader_Gamma_C R k) := csound_cons (bitio_Reader_ok_cs R k) <| csound_cons (bitio_Reader_whole_v50_cs R k) <| csound_nil
def bitio_Reader_Gamma_Jt {R : Type} (k : Nat) : JTab R := fun _ _ _ _ => none
def bitio_Reader_Gamma_J (R : Type) (k : Nat) : JTab R := bitio_Reader_Gamma_Jt k
def bitio_Reader_Gamma_at : AT := (.seq (.reg [1] []) (.seq (.seq (.reg [1, 6] []) (.cond (.seq (.reg [2, 3] []) .leaf) .leaf)) (.seq (.reg [2, 3] []) .leaf)))
def bitio_Reader_Gamma_f : IFn := ⟨12, [.t 2, .t 3], (.seq (.reg [⟨some 1, .box (.t 0), none⟩,
 ⟨some 2, .mov (.c (Go.Value.int Go.IntKind.i64 0)), none⟩,
 ⟨some 3, .mov (.c (Go.Value.int Go.IntKind.i64 0)), none⟩] [1]) (.seq (.seq (.reg [⟨some 4, .ld (.sc .ptr) (.t 1), none⟩,
 ⟨some 5, .call 38 [(.t 4)] (.one (.sc .bool)), none⟩,
 ⟨some 6, .lnot (.t 5), none⟩] [1, 6]) (.cond (.t 6) (.seq (.reg [⟨some 2, .mov (.c (Go.Value.int Go.IntKind.i64 0)), none⟩,
 ⟨some 3, .mov (.c (Go.Value.int Go.IntKind.i64 6)), none⟩] [2, 3]) .ret) .skip)) (.seq (.reg [⟨some 7, .ld (.sc .ptr) (.t 1), none⟩,
 ⟨some 8, .mkf 50 [(.t 1)], none⟩,
 ⟨some 9, .call 47 [(.t 7), (.t 8)] (.tup [(.sc (.int .i64)), (.sc (.int .i64))]), none⟩,
 ⟨some 10, .ext 0 (.t 9), none⟩,
 ⟨some 11, .ext 1 (.t 9), none⟩,
 ⟨some 2, .mov (.t 10), none⟩,
 ⟨some 3, .mov (.t 11), none⟩] [2, 3]) .ret)))⟩
def bitio_Reader_Gamma_ca {R : Type} (f : Option Addr → Heap → (Int → Int → Heap → Option R) → Option R) (args : List Value) (H : Heap) (K : Value → Heap → Option R) : Option R :=
  match args with
  | [.pointer p492] => f p492 H (fun n971 n972 H => K (.tuple ⟨[.int .i64 n971, .int .i64 n972]⟩) H)
  | _ => none
def bitio_Reader_Gamma_c (R : Type) (k : Nat) (args : List Value) (H : Heap) (K : Value → Heap → Option R) : Option R := bitio_Reader_Gamma_ca (bitio_Reader_Gamma k) args H K
theorem bitio_Reader_Gamma_e {R : Type} (bitio_Reader_ok : Option Addr → Heap → (Bool → Option R) → Option R) (bitio_Reader_whole_v50 : Option Addr → Option Addr → Heap → (Int → Int → Heap → Option R) → Option R) (k : Nat) (p492 : Option Addr) (H : Heap) (K : Value → Heap → Option R) : evF (bitio_Reader_Gamma_Ct bitio_Reader_ok bitio_Reader_whole_v50) (bitio_Reader_Gamma_Jt k) bitio_Reader_Gamma_f [.pointer p492] H K = bitio_Reader_Gamma_b bitio_Reader_ok bitio_Reader_whole_v50 k p492 H (fun n971 n972 H => K (.tuple ⟨[.int .i64 n971, .int .i64 n972]⟩) H) := by kernel_rfl
theorem bitio_Reader_Gamma_cs (R : Type) (k : Nat) : ∀ args H K r, bitio_Reader_Gamma_c R k args H K = some r → ∃ v H', Tri Try.prog 41 args H v H' ∧ K v H' = some r := by
  intro args H K r h
  unfold bitio_Reader_Gamma_c bitio_Reader_Gamma_ca at h
  split at h
  · exact evF_ok (C := bitio_Reader_Gamma_C R k) (an := An) (t := bitio_Reader_Gamma_at) (fn := Try.f41) (c := (Try.f41.body.getD .skip)) (ifn := bitio_Reader_Gamma_f) (bitio_Reader_Gamma_S R k) (bitio_Reader_Gamma_J R k) Try.func41 (by kernel_rfl) (by kernel_rfl) (And.intro True.intro (And.intro (And.intro True.intro (And.intro (And.intro True.intro True.intro) True.intro)) (And.intro True.intro True.intro))) rfl (Eq.trans (bitio_Reader_Gamma_e bitio_Reader_ok (bitio_Reader_whole_v50 k) k _ H K) h)
  · cases h
/-! ### bitio_Reader_Unary_1: function 52 -/
def bitio_Reader_Unary_1_b {R : Type} (bitio_Reader_count : Option Addr → Int → Int → Heap → (Int → Int → Heap → Option R) → Option R) (k : Nat) (p536 : Option Addr) (p537 : Option Addr) (H : Heap) (K : Int → Int → Heap → Option R) : Option R :=
ldP H p536 fun p538 =>
ldI .i64 H p537 fun n539 =>
bitio_Reader_count p538 1 (IntKind.wrap .i64 (n539 + 1)) H fun n540 n541 H542 =>
K n540 n541 H542

def bitio_Reader_Unary_1 {R : Type} (k : Nat) (p536 : Option Addr) (p537 : Option Addr) (H : Heap) (K : Int → Int → Heap → Option R) : Option R := bitio_Reader_Unary_1_b (bitio_Reader_count k) k p536 p537 H K

def bitio_Reader_Unary_1_Ct {R : Type} (bitio_Reader_count : Option Addr → Int → Int → Heap → (Int → Int → Heap → Option R) → Option R) : Tab R := tcons 51 (bitio_Reader_count_ca bitio_Reader_count) <| fun _ _ _ _ => none
def bitio_Reader_Unary_1_C (R : Type) (k : Nat) : Tab R := bitio_Reader_Unary_1_Ct (bitio_Reader_count k)
theorem bitio_Reader_Unary_1_S (R : Type) (k : Nat) : CSound Try.prog (bitio_Reader_Unary_1_C R k) := csound_cons (bitio_Reader_count_cs R k) <| csound_nil
def bitio_Reader_Unary_1_Jt {R : Type} (k : Nat) : JTab R := fun _ _ _ _ => none
def bitio_Reader_Unary_1_J (R : Type) (k : Nat) : JTab R := bitio_Reader_Unary_1_Jt k
def bitio_Reader_Unary_1_at : AT := (.seq (.reg [0, 1] []) (.seq (.reg [2, 3] []) .leaf))
def bitio_Reader_Unary_1_f : IFn := ⟨10, [.t 2, .t 3], (.seq (.reg [⟨some 2, .mov (.c (Go.Value.int Go.IntKind.i64 0)), none⟩,
 ⟨some 3, .mov (.c (Go.Value.int Go.IntKind.i64 0)), none⟩] [0, 1]) (.seq (.reg [⟨some 4, .ld (.sc .ptr) (.t 0), none⟩,
 ⟨some 5, .ld (.sc (.int .i64)) (.t 1), none⟩,
 ⟨some 6, .bin .add .i64 (.t 5) (.c (Go.Value.int Go.IntKind.i64 1)), none⟩,
 ⟨some 7, .call 51 [(.t 4), (.c (Go.Value.int Go.IntKind.i64 1)), (.t 6)] (.tup [(.sc (.int .i64)), (.sc (.int .i64))]), none⟩,
 ⟨some 8, .ext 0 (.t 7), none⟩,
 ⟨some 9, .ext 1 (.t 7), none⟩,
 ⟨some 2, .mov (.t 8), none⟩,
 ⟨some 3, .mov (.t 9), none⟩] [2, 3]) .ret))⟩
def bitio_Reader_Unary_1_ca {R : Type} (f : Option Addr → Option Addr → Heap → (Int → Int → Heap → Option R) → Option R) (args : List Value) (H : Heap) (K : Value → Heap → Option R) : Option R :=
  match args with
  | [.pointer p536, .pointer p537] => f p536 p537 H (fun n973 n974 H => K (.tuple ⟨[.int .i64 n973, .int .i64 n974]⟩) H)
  | _ => none
def bitio_Reader_Unary_1_c (R : Type) (k : Nat) (args : List Value) (H : Heap) (K : Value → Heap → Option R) : Option R := bitio_Reader_Unary_1_ca (bitio_Reader_Unary_1 k) args H K
theorem bitio_Reader_Unary_1_e {R : Type} (bitio_Reader_count : Option Addr → Int → Int → Heap → (Int → Int → Heap → Option R) → Option R) (k : Nat) (p536 : Option Addr) (p537 : Option Addr) (H : Heap) (K : Value → Heap → Option R) : evF (bitio_Reader_Unary_1_Ct bitio_Reader_count) (bitio_Reader_Unary_1_Jt k) bitio_Reader_Unary_1_f [.pointer p536, .pointer p537] H K = bitio_Reader_Unary_1_b bitio_Reader_count k p536 p537 H (fun n973 n974 H => K (.tuple ⟨[.int .i64 n973, .int .i64 n974]⟩) H) := by kernel_rfl
theorem bitio_Reader_Unary_1_cs (R : Type) (k : Nat) : ∀ args H K r, bitio_Reader_Unary_1_c R k args H K = some r → ∃ v H', Tri Try.prog 52 args H v H' ∧ K v H' = some r := by
  intro args H K r h
  unfold bitio_Reader_Unary_1_c bitio_Reader_Unary_1_ca at h
  split at h
  · exact evF_ok (C := bitio_Reader_Unary_1_C R k) (an := An) (t := bitio_Reader_Unary_1_at) (fn := Try.f52) (c := (Try.f52.body.getD .skip)) (ifn := bitio_Reader_Unary_1_f) (bitio_Reader_Unary_1_S R k) (bitio_Reader_Unary_1_J R k) Try.func52 (by kernel_rfl) (by kernel_rfl) (And.intro True.intro (And.intro True.intro True.intro)) rfl (Eq.trans (bitio_Reader_Unary_1_e (bitio_Reader_count k) k _ _ H K) h)
  · cases h
/-! ### bitio_Reader_whole_v52: function 47 -/
def bitio_Reader_whole_v52_b {R : Type} (bitio_Reader_Unary_1 : Option Addr → Option Addr → Heap → (Int → Int → Heap → Option R) → Option R) (k : Nat) (p527 : Option Addr) (p528 : Option Addr) (p529 : Option Addr) (H : Heap) (K : Int → Int → Heap → Option R) : Option R :=
hnil p527 fun p530 =>
hfad 2 p530 fun p531 =>
ldI .i64 H p531 fun n532 =>
hnil p527 fun p533 =>
hfad 3 p533 fun p534 =>
ldI .i64 H p534 fun n535 =>
bitio_Reader_Unary_1 p528 p529 H fun n536 n537 H538 =>
bif (n537 != 0) then (hnil p527 fun p539 =>
hfad 2 p539 fun p540 =>
hst1 H538 p540 (.int .i64 n532) fun H541 =>
hnil p527 fun p542 =>
hfad 3 p542 fun p543 =>
hst1 H541 p543 (.int .i64 n535) fun H544 =>
K 0 n537 H544)
 else (K n536 0 H538)

def bitio_Reader_whole_v52 {R : Type} (k : Nat) (p527 : Option Addr) (p528 : Option Addr) (p529 : Option Addr) (H : Heap) (K : Int → Int → Heap → Option R) : Option R := bitio_Reader_whole_v52_b (bitio_Reader_Unary_1 k) k p527 p528 p529 H K

def bitio_Reader_whole_v52_Ct {R : Type} (bitio_Reader_Unary_1 : Option Addr → Option Addr → Heap → (Int → Int → Heap → Option R) → Option R) : Tab R := tcons 52 (bitio_Reader_Unary_1_ca bitio_Reader_Unary_1) <| fun _ _ _ _ => none
def bitio_Reader_whole_v52_C (R : Type) (k : Nat) : Tab R := bitio_Reader_whole_v52_Ct (bitio_Reader_Unary_1 k)
theorem bitio_Reader_whole_v52_S (R : Type) (k : Nat) : CSound Try.prog (bitio_Reader_whole_v52_C R k) := csound_cons (bitio_Reader_Unary_1_cs R k) <| csound_nil
def bitio_Reader_whole_v52_Jt {R : Type} (k : Nat) : JTab R := fun _ _ _ _ => none
def bitio_Reader_whole_v52_J (R : Type) (k : Nat) : JTab R := bitio_Reader_whole_v52_Jt k
def bitio_Reader_whole_v52_at : AT := (.seq (.reg [0, 1] []) (.seq (.reg [0, 1, 6, 7] [[], [0], [0, 1], [0, 1, 2], [], [4], [4, 5], [4, 5, 6], [0, 1, 2, 3], [0, 1, 2, 3, 4, 5, 6, 7, 8]]) (.seq (.reg [0, 6, 7, 8, 9] []) (.seq (.seq (.reg [0, 6, 7, 8, 9, 24] []) (.cond (.seq (.reg [9] []) (.seq (.reg [4, 5] []) .leaf)) .leaf)) (.seq (.reg [4, 5] []) .leaf)))))
def bitio_Reader_whole_v52_f : IFn := ⟨35, [.t 4, .t 5], (.seq (.reg [⟨some 4, .mov (.c (Go.Value.int Go.IntKind.i64 0)), none⟩,
 ⟨some 5, .mov (.c (Go.Value.int Go.IntKind.i64 0)), none⟩] [0, 1]) (.seq (.reg [⟨some 10, .mov (.t 0), none⟩,
 ⟨some 11, .nilc (.t 10), none⟩,
 ⟨some 12, .fad 2 (.t 11), none⟩,
 ⟨some 13, .ld (.sc (.int .i64)) (.t 12), none⟩,
 ⟨some 14, .mov (.t 0), none⟩,
 ⟨some 15, .nilc (.t 14), none⟩,
 ⟨some 16, .fad 3 (.t 15), none⟩,
 ⟨some 17, .ld (.sc (.int .i64)) (.t 16), none⟩,
 ⟨some 6, .mov (.t 13), none⟩,
 ⟨some 7, .mov (.t 17), none⟩] [0, 1, 6, 7]) (.seq (.reg [⟨some 19, .mov (.t 1), none⟩,
 ⟨some 20, .calv (.t 19) [] (.tup [(.sc (.int .i64)), (.sc (.int .i64))]), none⟩,
 ⟨some 18, .mov (.t 20), none⟩,
 ⟨some 21, .ext 0 (.t 18), none⟩,
 ⟨some 22, .ext 1 (.t 18), none⟩,
 ⟨some 8, .mov (.t 21), none⟩,
 ⟨some 9, .mov (.t 22), none⟩] [0, 6, 7, 8, 9]) (.seq (.seq (.reg [⟨some 23, .mov (.t 9), none⟩,
 ⟨some 24, .cmp .neq (.t 23) (.c (Go.Value.int Go.IntKind.i64 0)), none⟩] [0, 6, 7, 8, 9, 24]) (.cond (.t 24) (.seq (.reg [⟨some 25, .mov (.t 0), none⟩,
 ⟨some 26, .mov (.t 0), none⟩,
 ⟨some 27, .mov (.t 6), none⟩,
 ⟨some 28, .mov (.t 7), none⟩,
 ⟨some 29, .nilc (.t 25), none⟩,
 ⟨some 30, .fad 2 (.t 29), none⟩,
 ⟨none, .st 1 (.t 30) (.t 27), none⟩,
 ⟨some 31, .nilc (.t 26), none⟩,
 ⟨some 32, .fad 3 (.t 31), none⟩,
 ⟨none, .st 1 (.t 32) (.t 28), none⟩] [9]) (.seq (.reg [⟨some 33, .mov (.t 9), none⟩,
 ⟨some 4, .mov (.c (Go.Value.int Go.IntKind.i64 0)), none⟩,
 ⟨some 5, .mov (.t 33), none⟩] [4, 5]) .ret)) .skip)) (.seq (.reg [⟨some 34, .mov (.t 8), none⟩,
 ⟨some 4, .mov (.t 34), none⟩,
 ⟨some 5, .mov (.c (Go.Value.int Go.IntKind.i64 0)), none⟩] [4, 5]) .ret)))))⟩
def bitio_Reader_whole_v52_ca {R : Type} (f : Option Addr → Option Addr → Option Addr → Heap → (Int → Int → Heap → Option R) → Option R) (args : List Value) (H : Heap) (K : Value → Heap → Option R) : Option R :=
  match args with
  | [.pointer p527, .func (.func 52) ⟨[]⟩ ⟨[.pointer p528, .pointer p529]⟩] => f p527 p528 p529 H (fun n975 n976 H => K (.tuple ⟨[.int .i64 n975, .int .i64 n976]⟩) H)
  | _ => none
def bitio_Reader_whole_v52_c (R : Type) (k : Nat) (args : List Value) (H : Heap) (K : Value → Heap → Option R) : Option R := bitio_Reader_whole_v52_ca (bitio_Reader_whole_v52 k) args H K
theorem bitio_Reader_whole_v52_e {R : Type} (bitio_Reader_Unary_1 : Option Addr → Option Addr → Heap → (Int → Int → Heap → Option R) → Option R) (k : Nat) (p527 : Option Addr) (p528 : Option Addr) (p529 : Option Addr) (H : Heap) (K : Value → Heap → Option R) : evF (bitio_Reader_whole_v52_Ct bitio_Reader_Unary_1) (bitio_Reader_whole_v52_Jt k) bitio_Reader_whole_v52_f [.pointer p527, .func (.func 52) ⟨[]⟩ ⟨[.pointer p528, .pointer p529]⟩] H K = bitio_Reader_whole_v52_b bitio_Reader_Unary_1 k p527 p528 p529 H (fun n975 n976 H => K (.tuple ⟨[.int .i64 n975, .int .i64 n976]⟩) H) := by kernel_rfl
theorem bitio_Reader_whole_v52_cs (R : Type) (k : Nat) : ∀ args H K r, bitio_Reader_whole_v52_c R k args H K = some r → ∃ v H', Tri Try.prog 47 args H v H' ∧ K v H' = some r := by
  intro args H K r h
  unfold bitio_Reader_whole_v52_c bitio_Reader_whole_v52_ca at h
  split at h
  · exact evF_ok (C := bitio_Reader_whole_v52_C R k) (an := An) (t := bitio_Reader_whole_v52_at) (fn := Try.f47) (c := (Try.f47.body.getD .skip)) (ifn := bitio_Reader_whole_v52_f) (bitio_Reader_whole_v52_S R k) (bitio_Reader_whole_v52_J R k) Try.func47 (by kernel_rfl) (by kernel_rfl) (And.intro True.intro (And.intro True.intro (And.intro True.intro (And.intro (And.intro True.intro (And.intro (And.intro True.intro (And.intro True.intro True.intro)) True.intro)) (And.intro True.intro True.intro))))) rfl (Eq.trans (bitio_Reader_whole_v52_e (bitio_Reader_Unary_1 k) k _ _ _ H K) h)
  · cases h
/-! ### bitio_Reader_Unary: function 42 -/
def bitio_Reader_Unary_p0_b {R : Type} (k : Nat) (p516 : Option Addr) (p517 : Option Addr) (H : Heap) (KN : Option Addr → Option Addr → Option R) (KR : Int → Int → Option R) : Option R :=
ldI .i64 H p517 fun n518 =>
bif decide (n518 < 0) then (KR 0 1)
 else (ldI .i64 H p517 fun n519 =>
bif decide (n519 > 65535) then (KR 0 1)
 else (KN p516 p517))
def bitio_Reader_Unary_p0 {R : Type} (k : Nat) (p516 : Option Addr) (p517 : Option Addr) (H : Heap) (KN : Option Addr → Option Addr → Option R) (KR : Int → Int → Option R) : Option R := bitio_Reader_Unary_p0_b k p516 p517 H KN KR

def bitio_Reader_Unary_b {R : Type} (bitio_Reader_ok : Option Addr → Heap → (Bool → Option R) → Option R) (bitio_Reader_Unary_p0 : Option Addr → Option Addr → Heap → (Option Addr → Option Addr → Option R) → (Int → Int → Option R) → Option R) (bitio_Reader_whole_v52 : Option Addr → Option Addr → Option Addr → Heap → (Int → Int → Heap → Option R) → Option R) (k : Nat) (p508 : Option Addr) (n509 : Int) (H : Heap) (K : Int → Int → Heap → Option R) : Option R :=
hal H [.pointer p508] fun p510 H511 =>
hal H511 [.int .i64 n509] fun p512 H513 =>
ldP H513 p510 fun p514 =>
bitio_Reader_ok p514 H513 fun t515 =>
bif (!t515) then (K 0 6 H513)
 else (bitio_Reader_Unary_p0 p510 p512 H513 (fun p524 p525 =>
ldP H513 p524 fun p526 =>
bitio_Reader_whole_v52 p526 p524 p525 H513 fun n527 n528 H529 =>
K n527 n528 H529) (fun n530 n531 =>
K n530 n531 H513))

def bitio_Reader_Unary {R : Type} (k : Nat) (p508 : Option Addr) (n509 : Int) (H : Heap) (K : Int → Int → Heap → Option R) : Option R := bitio_Reader_Unary_b bitio_Reader_ok (bitio_Reader_Unary_p0 k) (bitio_Reader_whole_v52 k) k p508 n509 H K

def bitio_Reader_Unary_Ct {R : Type} (bitio_Reader_ok : Option Addr → Heap → (Bool → Option R) → Option R) (bitio_Reader_whole_v52 : Option Addr → Option Addr → Option Addr → Heap → (Int → Int → Heap → Option R) → Option R) : Tab R := tcons 38 (bitio_Reader_ok_ca bitio_Reader_ok) <| tcons 47 (bitio_Reader_whole_v52_ca bitio_Reader_whole_v52) <| fun _ _ _ _ => none
def bitio_Reader_Unary_C (R : Type) (k : Nat) : Tab R := bitio_Reader_Unary_Ct bitio_Reader_ok (bitio_Reader_whole_v52 k)
theorem bitio_Reader_Unary_S (R : Type) (k : Nat) : CSound Try.prog (bitio_Reader_Unary_C R k) := csound_cons (bitio_Reader_ok_cs R k) <| csound_cons (bitio_Reader_whole_v52_cs R k) <| csound_nil
def bitio_Reader_Unary_aa0 {R : Type} (f : Option Addr → Option Addr → Heap → (Option Addr → Option Addr → Option R) → (Int → Int → Option R) → Option R) (n : Nat) (vals : List Value) (H : Heap) (K : Xit → Env → Heap → Option R) : Option R :=
  match vals with
  | [.pointer p516, .pointer p517] => f p516 p517 H (fun p977 p978 => K .normal [(2, .pointer p977), (3, .pointer p978)] H) (fun n979 n980 => K .ret [(4, .int .i64 n979), (5, .int .i64 n980)] H)
  | _ => none
def bitio_Reader_Unary_a0 (R : Type) (k n : Nat) (vals : List Value) (H : Heap) (K : Xit → Env → Heap → Option R) : Option R := bitio_Reader_Unary_aa0 (bitio_Reader_Unary_p0 k) n vals H K
def bitio_Reader_Unary_Jt {R : Type} (k : Nat) (bitio_Reader_Unary_p0 : Option Addr → Option Addr → Heap → (Option Addr → Option Addr → Option R) → (Int → Int → Option R) → Option R) : JTab R := tcons 0 (bitio_Reader_Unary_aa0 bitio_Reader_Unary_p0 k) <| fun _ _ _ _ => none
def bitio_Reader_Unary_J (R : Type) (k : Nat) : JTab R := bitio_Reader_Unary_Jt k (bitio_Reader_Unary_p0 k)
def bitio_Reader_Unary_at : AT := (.seq (.reg [2, 3] []) (.seq (.seq (.reg [2, 3, 8] []) (.cond (.seq (.reg [4, 5] []) .leaf) .leaf)) (.seq (.opq 0 [2, 3] ⟨[2, 3], [], [4, 5]⟩ (.seq (.reg [2, 3, 14] []) (.cond (.seq (.reg [4, 5] []) .leaf) .leaf))) (.seq (.reg [4, 5] []) .leaf))))
def bitio_Reader_Unary_i0 : IC := (.seq (.reg [⟨some 9, .ld (.sc (.int .i64)) (.t 3), none⟩,
 ⟨some 10, .cmp .lss (.t 9) (.c (Go.Value.int Go.IntKind.i64 0)), none⟩,
 ⟨some 11, .mov (.t 10), none⟩,
 ⟨some 12, .ld (.sc (.int .i64)) (.t 3), some (11, false)⟩,
 ⟨some 13, .cmp .gtr (.t 12) (.c (Go.Value.int Go.IntKind.i64 65535)), some (11, false)⟩,
 ⟨some 14, .pick (.t 11) (.c (Go.Value.bool true)) (.t 13), none⟩] [2, 3, 14]) (.cond (.t 14) (.seq (.reg [⟨some 4, .mov (.c (Go.Value.int Go.IntKind.i64 0)), none⟩,
 ⟨some 5, .mov (.c (Go.Value.int Go.IntKind.i64 1)), none⟩] [4, 5]) .ret) .skip))
def bitio_Reader_Unary_f : IFn := ⟨20, [.t 4, .t 5], (.seq (.reg [⟨some 2, .box (.t 0), none⟩,
 ⟨some 3, .box (.t 1), none⟩,
 ⟨some 4, .mov (.c (Go.Value.int Go.IntKind.i64 0)), none⟩,
 ⟨some 5, .mov (.c (Go.Value.int Go.IntKind.i64 0)), none⟩] [2, 3]) (.seq (.seq (.reg [⟨some 6, .ld (.sc .ptr) (.t 2), none⟩,
 ⟨some 7, .call 38 [(.t 6)] (.one (.sc .bool)), none⟩,
 ⟨some 8, .lnot (.t 7), none⟩] [2, 3, 8]) (.cond (.t 8) (.seq (.reg [⟨some 4, .mov (.c (Go.Value.int Go.IntKind.i64 0)), none⟩,
 ⟨some 5, .mov (.c (Go.Value.int Go.IntKind.i64 6)), none⟩] [4, 5]) .ret) .skip)) (.seq (.opq 0 [2, 3] bitio_Reader_Unary_i0) (.seq (.reg [⟨some 15, .ld (.sc .ptr) (.t 2), none⟩,
 ⟨some 16, .mkf 52 [(.t 2), (.t 3)], none⟩,
 ⟨some 17, .call 47 [(.t 15), (.t 16)] (.tup [(.sc (.int .i64)), (.sc (.int .i64))]), none⟩,
 ⟨some 18, .ext 0 (.t 17), none⟩,
 ⟨some 19, .ext 1 (.t 17), none⟩,
 ⟨some 4, .mov (.t 18), none⟩,
 ⟨some 5, .mov (.t 19), none⟩] [4, 5]) .ret))))⟩
theorem bitio_Reader_Unary_e0 {R : Type} (bitio_Reader_ok : Option Addr → Heap → (Bool → Option R) → Option R) (bitio_Reader_whole_v52 : Option Addr → Option Addr → Option Addr → Heap → (Int → Int → Heap → Option R) → Option R) (bitio_Reader_Unary_p0 : Option Addr → Option Addr → Heap → (Option Addr → Option Addr → Option R) → (Int → Int → Option R) → Option R) (k : Nat) (p516 : Option Addr) (p517 : Option Addr) (H : Heap) (K : Xit → Env → Heap → Option R) : evJ (bitio_Reader_Unary_Ct bitio_Reader_ok bitio_Reader_whole_v52) (bitio_Reader_Unary_Jt k bitio_Reader_Unary_p0) bitio_Reader_Unary_i0 (List.zip [2, 3] [.pointer p516, .pointer p517]) H (fun x e' H' => K x (clean e' ((⟨[2, 3], [], [4, 5]⟩ : Out).of x)) H') = bitio_Reader_Unary_p0_b k p516 p517 H (fun p977 p978 => K .normal [(2, .pointer p977), (3, .pointer p978)] H) (fun n979 n980 => K .ret [(4, .int .i64 n979), (5, .int .i64 n980)] H) := by kernel_rfl
theorem bitio_Reader_Unary_j0 {R : Type} (k : Nat) : JS Try.prog 20 (bitio_Reader_Unary_a0 R k k) [2, 3] ⟨[2, 3], [], [4, 5]⟩ (sel [1, 1, 0] (Try.f42.body.getD .skip)) :=
  piece_ok (nt := 20) (c := (sel [1, 1, 0] (Try.f42.body.getD .skip))) (C := bitio_Reader_Unary_C R k) (an := An) (t := (.seq (.reg [2, 3, 14] []) (.cond (.seq (.reg [4, 5] []) .leaf) .leaf))) (ic := bitio_Reader_Unary_i0) (bitio_Reader_Unary_S R k) (bitio_Reader_Unary_J R k) (by kernel_rfl) (And.intro True.intro (And.intro (And.intro True.intro True.intro) True.intro)) (bitio_Reader_Unary_a0 R k k)
    (fun vals H K r h => by
      unfold bitio_Reader_Unary_a0 bitio_Reader_Unary_aa0 at h
      split at h <;> first | (cases h; done) | exact Eq.trans (bitio_Reader_Unary_e0 bitio_Reader_ok (bitio_Reader_whole_v52 k) (bitio_Reader_Unary_p0 k) k _ _ H K) h)
def bitio_Reader_Unary_ca {R : Type} (f : Option Addr → Int → Heap → (Int → Int → Heap → Option R) → Option R) (args : List Value) (H : Heap) (K : Value → Heap → Option R) : Option R :=
  match args with
  | [.pointer p508, .int .i64 n509] => f p508 n509 H (fun n981 n982 H => K (.tuple ⟨[.int .i64 n981, .int .i64 n982]⟩) H)
  | _ => none
def bitio_Reader_Unary_c (R : Type) (k : Nat) (args : List Value) (H : Heap) (K : Value → Heap → Option R) : Option R := bitio_Reader_Unary_ca (bitio_Reader_Unary k) args H K
theorem bitio_Reader_Unary_e {R : Type} (bitio_Reader_ok : Option Addr → Heap → (Bool → Option R) → Option R) (bitio_Reader_whole_v52 : Option Addr → Option Addr → Option Addr → Heap → (Int → Int → Heap → Option R) → Option R) (bitio_Reader_Unary_p0 : Option Addr → Option Addr → Heap → (Option Addr → Option Addr → Option R) → (Int → Int → Option R) → Option R) (k : Nat) (p508 : Option Addr) (n509 : Int) (H : Heap) (K : Value → Heap → Option R) : evF (bitio_Reader_Unary_Ct bitio_Reader_ok bitio_Reader_whole_v52) (bitio_Reader_Unary_Jt k bitio_Reader_Unary_p0) bitio_Reader_Unary_f [.pointer p508, .int .i64 n509] H K = bitio_Reader_Unary_b bitio_Reader_ok bitio_Reader_Unary_p0 bitio_Reader_whole_v52 k p508 n509 H (fun n981 n982 H => K (.tuple ⟨[.int .i64 n981, .int .i64 n982]⟩) H) := by kernel_rfl
theorem bitio_Reader_Unary_cs (R : Type) (k : Nat) : ∀ args H K r, bitio_Reader_Unary_c R k args H K = some r → ∃ v H', Tri Try.prog 42 args H v H' ∧ K v H' = some r := by
  intro args H K r h
  unfold bitio_Reader_Unary_c bitio_Reader_Unary_ca at h
  split at h
  · exact evF_ok (C := bitio_Reader_Unary_C R k) (an := An) (t := bitio_Reader_Unary_at) (fn := Try.f42) (c := (Try.f42.body.getD .skip)) (ifn := bitio_Reader_Unary_f) (bitio_Reader_Unary_S R k) (bitio_Reader_Unary_J R k) Try.func42 (by kernel_rfl) (by kernel_rfl) (And.intro True.intro (And.intro (And.intro True.intro (And.intro (And.intro True.intro True.intro) True.intro)) (And.intro (bitio_Reader_Unary_j0 k) (And.intro True.intro True.intro)))) rfl (Eq.trans (bitio_Reader_Unary_e bitio_Reader_ok (bitio_Reader_whole_v52 k) (bitio_Reader_Unary_p0 k) k _ _ H K) h)
  · cases h
/-! ### L_read: function 27 -/
def L_read_b {R : Type} (bitio_Reader_Get : Option Addr → Heap → (Int → Int → Heap → Option R) → Option R) (bitio_Reader_Bits : Option Addr → Int → Heap → (Int → Int → Heap → Option R) → Option R) (bitio_Reader_Gamma : Option Addr → Heap → (Int → Int → Heap → Option R) → Option R) (bitio_Reader_Unary : Option Addr → Int → Heap → (Int → Int → Heap → Option R) → Option R) (bitio_Reader_Align : Option Addr → Heap → (Int → Int → Heap → Option R) → Option R) (k : Nat) (p476 : Option Addr) (n477 : Int) (n478 : Int) (n479 : Int) (H : Heap) (K : Int → Int → Heap → Option R) : Option R :=
hal H [.int .i64 n477, .int .i64 n478, .int .i64 n479] fun p480 H481 =>
hfad 0 p480 fun p482 =>
ldI .i64 H481 p482 fun n483 =>
bif (n483 == 0) then (bitio_Reader_Get p476 H481 fun n484 n485 H486 =>
K n484 n485 H486)
 else (bif (n483 == 1) then (hfad 2 p480 fun p487 =>
ldI .i64 H481 p487 fun n488 =>
bitio_Reader_Bits p476 n488 H481 fun n489 n490 H491 =>
K n489 n490 H491)
 else (bif (n483 == 2) then (bitio_Reader_Gamma p476 H481 fun n492 n493 H494 =>
K n492 n493 H494)
 else (bif (n483 == 3) then (hfad 2 p480 fun p495 =>
ldI .i64 H481 p495 fun n496 =>
bitio_Reader_Unary p476 n496 H481 fun n497 n498 H499 =>
K n497 n498 H499)
 else (bif (n483 == 4) then (bitio_Reader_Align p476 H481 fun n500 n501 H502 =>
K n500 n501 H502)
 else (K 0 0 H481)))))

def L_read {R : Type} (k : Nat) (p476 : Option Addr) (n477 : Int) (n478 : Int) (n479 : Int) (H : Heap) (K : Int → Int → Heap → Option R) : Option R := L_read_b (bitio_Reader_Get k) (bitio_Reader_Bits k) (bitio_Reader_Gamma k) (bitio_Reader_Unary k) (bitio_Reader_Align k) k p476 n477 n478 n479 H K

def L_read_Ct {R : Type} (bitio_Reader_Get : Option Addr → Heap → (Int → Int → Heap → Option R) → Option R) (bitio_Reader_Bits : Option Addr → Int → Heap → (Int → Int → Heap → Option R) → Option R) (bitio_Reader_Gamma : Option Addr → Heap → (Int → Int → Heap → Option R) → Option R) (bitio_Reader_Unary : Option Addr → Int → Heap → (Int → Int → Heap → Option R) → Option R) (bitio_Reader_Align : Option Addr → Heap → (Int → Int → Heap → Option R) → Option R) : Tab R := tcons 22 (bitio_Reader_Get_ca bitio_Reader_Get) <| tcons 31 (bitio_Reader_Bits_ca bitio_Reader_Bits) <| tcons 41 (bitio_Reader_Gamma_ca bitio_Reader_Gamma) <| tcons 42 (bitio_Reader_Unary_ca bitio_Reader_Unary) <| tcons 24 (bitio_Reader_Align_ca bitio_Reader_Align) <| fun _ _ _ _ => none
def L_read_C (R : Type) (k : Nat) : Tab R := L_read_Ct (bitio_Reader_Get k) (bitio_Reader_Bits k) (bitio_Reader_Gamma k) (bitio_Reader_Unary k) (bitio_Reader_Align k)
theorem L_read_S (R : Type) (k : Nat) : CSound Try.prog (L_read_C R k) := csound_cons (bitio_Reader_Get_cs R k) <| csound_cons (bitio_Reader_Bits_cs R k) <| csound_cons (bitio_Reader_Gamma_cs R k) <| csound_cons (bitio_Reader_Unary_cs R k) <| csound_cons (bitio_Reader_Align_cs R k) <| csound_nil
def L_read_Jt {R : Type} (k : Nat) : JTab R := fun _ _ _ _ => none
def L_read_J (R : Type) (k : Nat) : JTab R := L_read_Jt k
def L_read_at : AT := (.seq (.reg [0, 3] []) (.seq (.seq (.reg [0, 3, 7] []) (.node (.seq (.reg [0, 3, 7, 8] []) (.cond (.seq (.reg [4, 5] []) .leaf) (.seq (.reg [0, 3, 7, 14] []) (.cond (.seq (.reg [4, 5] []) .leaf) (.seq (.reg [0, 3, 7, 22] []) (.cond (.seq (.reg [4, 5] []) .leaf) (.seq (.reg [0, 3, 7, 28] []) (.cond (.seq (.reg [4, 5] []) .leaf) (.seq (.reg [0, 36] []) (.cond (.seq (.reg [4, 5] []) .leaf) .leaf)))))))))))) (.seq (.reg [4, 5] []) .leaf)))
def L_read_f : IFn := ⟨42, [.t 4, .t 5], (.seq (.reg [⟨some 3, .box (.t 1), none⟩,
 ⟨some 4, .mov (.c (Go.Value.int Go.IntKind.i64 0)), none⟩,
 ⟨some 5, .mov (.c (Go.Value.int Go.IntKind.i64 0)), none⟩] [0, 3]) (.seq (.seq (.reg [⟨some 6, .fad 0 (.t 3), none⟩,
 ⟨some 7, .ld (.sc (.int .i64)) (.t 6), none⟩] [0, 3, 7]) (.block 0 (.seq (.reg [⟨some 9, .cmp .eql (.t 7) (.c (Go.Value.int Go.IntKind.i64 0)), none⟩,
 ⟨some 8, .mov (.t 9), none⟩] [0, 3, 7, 8]) (.cond (.t 8) (.seq (.reg [⟨some 10, .mov (.t 0), none⟩,
 ⟨some 11, .call 22 [(.t 10)] (.tup [(.sc (.int .i64)), (.sc (.int .i64))]), none⟩,
 ⟨some 12, .ext 0 (.t 11), none⟩,
 ⟨some 13, .ext 1 (.t 11), none⟩,
 ⟨some 4, .mov (.t 12), none⟩,
 ⟨some 5, .mov (.t 13), none⟩] [4, 5]) .ret) (.seq (.reg [⟨some 15, .cmp .eql (.t 7) (.c (Go.Value.int Go.IntKind.i64 1)), none⟩,
 ⟨some 14, .mov (.t 15), none⟩] [0, 3, 7, 14]) (.cond (.t 14) (.seq (.reg [⟨some 16, .mov (.t 0), none⟩,
 ⟨some 17, .fad 2 (.t 3), none⟩,
 ⟨some 18, .ld (.sc (.int .i64)) (.t 17), none⟩,
 ⟨some 19, .call 31 [(.t 16), (.t 18)] (.tup [(.sc (.int .i64)), (.sc (.int .i64))]), none⟩,
 ⟨some 20, .ext 0 (.t 19), none⟩,
 ⟨some 21, .ext 1 (.t 19), none⟩,
 ⟨some 4, .mov (.t 20), none⟩,
 ⟨some 5, .mov (.t 21), none⟩] [4, 5]) .ret) (.seq (.reg [⟨some 23, .cmp .eql (.t 7) (.c (Go.Value.int Go.IntKind.i64 2)), none⟩,
 ⟨some 22, .mov (.t 23), none⟩] [0, 3, 7, 22]) (.cond (.t 22) (.seq (.reg [⟨some 24, .mov (.t 0), none⟩,
 ⟨some 25, .call 41 [(.t 24)] (.tup [(.sc (.int .i64)), (.sc (.int .i64))]), none⟩,
 ⟨some 26, .ext 0 (.t 25), none⟩,
 ⟨some 27, .ext 1 (.t 25), none⟩,
 ⟨some 4, .mov (.t 26), none⟩,
 ⟨some 5, .mov (.t 27), none⟩] [4, 5]) .ret) (.seq (.reg [⟨some 29, .cmp .eql (.t 7) (.c (Go.Value.int Go.IntKind.i64 3)), none⟩,
 ⟨some 28, .mov (.t 29), none⟩] [0, 3, 7, 28]) (.cond (.t 28) (.seq (.reg [⟨some 30, .mov (.t 0), none⟩,
 ⟨some 31, .fad 2 (.t 3), none⟩,
 ⟨some 32, .ld (.sc (.int .i64)) (.t 31), none⟩,
 ⟨some 33, .call 42 [(.t 30), (.t 32)] (.tup [(.sc (.int .i64)), (.sc (.int .i64))]), none⟩,
 ⟨some 34, .ext 0 (.t 33), none⟩,
 ⟨some 35, .ext 1 (.t 33), none⟩,
 ⟨some 4, .mov (.t 34), none⟩,
 ⟨some 5, .mov (.t 35), none⟩] [4, 5]) .ret) (.seq (.reg [⟨some 37, .cmp .eql (.t 7) (.c (Go.Value.int Go.IntKind.i64 4)), none⟩,
 ⟨some 36, .mov (.t 37), none⟩] [0, 36]) (.cond (.t 36) (.seq (.reg [⟨some 38, .mov (.t 0), none⟩,
 ⟨some 39, .call 24 [(.t 38)] (.tup [(.sc (.int .i64)), (.sc (.int .i64))]), none⟩,
 ⟨some 40, .ext 0 (.t 39), none⟩,
 ⟨some 41, .ext 1 (.t 39), none⟩,
 ⟨some 4, .mov (.t 40), none⟩,
 ⟨some 5, .mov (.t 41), none⟩] [4, 5]) .ret) .skip)))))))))))) (.seq (.reg [⟨some 4, .mov (.c (Go.Value.int Go.IntKind.i64 0)), none⟩,
 ⟨some 5, .mov (.c (Go.Value.int Go.IntKind.i64 0)), none⟩] [4, 5]) .ret)))⟩
def L_read_ca {R : Type} (f : Option Addr → Int → Int → Int → Heap → (Int → Int → Heap → Option R) → Option R) (args : List Value) (H : Heap) (K : Value → Heap → Option R) : Option R :=
  match args with
  | [.pointer p476, .agg ⟨[.int .i64 n477, .int .i64 n478, .int .i64 n479]⟩] => f p476 n477 n478 n479 H (fun n983 n984 H => K (.tuple ⟨[.int .i64 n983, .int .i64 n984]⟩) H)
  | _ => none
def L_read_c (R : Type) (k : Nat) (args : List Value) (H : Heap) (K : Value → Heap → Option R) : Option R := L_read_ca (L_read k) args H K
theorem L_read_e {R : Type} (bitio_Reader_Get : Option Addr → Heap → (Int → Int → Heap → Option R) → Option R) (bitio_Reader_Bits : Option Addr → Int → Heap → (Int → Int → Heap → Option R) → Option R) (bitio_Reader_Gamma : Option Addr → Heap → (Int → Int → Heap → Option R) → Option R) (bitio_Reader_Unary : Option Addr → Int → Heap → (Int → Int → Heap → Option R) → Option R) (bitio_Reader_Align : Option Addr → Heap → (Int → Int → Heap → Option R) → Option R) (k : Nat) (p476 : Option Addr) (n477 : Int) (n478 : Int) (n479 : Int) (H : Heap) (K : Value → Heap → Option R) : evF (L_read_Ct bitio_Reader_Get bitio_Reader_Bits bitio_Reader_Gamma bitio_Reader_Unary bitio_Reader_Align) (L_read_Jt k) L_read_f [.pointer p476, .agg ⟨[.int .i64 n477, .int .i64 n478, .int .i64 n479]⟩] H K = L_read_b bitio_Reader_Get bitio_Reader_Bits bitio_Reader_Gamma bitio_Reader_Unary bitio_Reader_Align k p476 n477 n478 n479 H (fun n983 n984 H => K (.tuple ⟨[.int .i64 n983, .int .i64 n984]⟩) H) := by kernel_rfl
theorem L_read_cs (R : Type) (k : Nat) : ∀ args H K r, L_read_c R k args H K = some r → ∃ v H', Tri Try.prog 27 args H v H' ∧ K v H' = some r := by
  intro args H K r h
  unfold L_read_c L_read_ca at h
  split at h
  · exact evF_ok (C := L_read_C R k) (an := An) (t := L_read_at) (fn := Try.f27) (c := (Try.f27.body.getD .skip)) (ifn := L_read_f) (L_read_S R k) (L_read_J R k) Try.func27 (by kernel_rfl) (by kernel_rfl) (And.intro True.intro (And.intro (And.intro True.intro (And.intro True.intro (And.intro (And.intro True.intro True.intro) (And.intro True.intro (And.intro (And.intro True.intro True.intro) (And.intro True.intro (And.intro (And.intro True.intro True.intro) (And.intro True.intro (And.intro (And.intro True.intro True.intro) (And.intro True.intro (And.intro (And.intro True.intro True.intro) True.intro))))))))))) (And.intro True.intro True.intro))) rfl (Eq.trans (L_read_e (bitio_Reader_Get k) (bitio_Reader_Bits k) (bitio_Reader_Gamma k) (bitio_Reader_Unary k) (bitio_Reader_Align k) k _ _ _ _ H K) h)
  · cases h
end Go.Proofs.Ytiapgcgpdndkiaa.Sh
