/- Lean functions that stand for Go's, over an explicit heap, and the proofs that they do (written by this claim's program shallow.py). -/
import Derived.Test.YtblpaolcgkjcgaaSh0
import Derived.Test.YtblpaolcgkjcgaaSh6
set_option maxRecDepth 100000
set_option linter.unusedVariables false
set_option linter.unusedSimpArgs false
namespace Go.Proofs.Ytblpaolcgkjcgaa.Sh
open Go.Proofs.Ytblpaolcgkjcgaa.FW
/-! ### R14_Block_get: function 66 -/
def R14_Block_get_b {R : Type} (R14_Block_in : Option Addr → Int → Int → Heap → (Bool → Option R) → Option R) (k : Nat) (p496 : Option Addr) (n497 : Int) (n498 : Int) (H : Heap) (K : Int → Bool → Bool → Bool → Heap → Option R) : Option R :=
hal H [.int .i64 0, .bool false, .bool false, .bool false] fun p499 H500 =>
R14_Block_in p496 n497 n498 H500 fun t501 =>
bif (!t501) then (hst H500 p499 [.int .i64 0, .bool false, .bool false, .bool false] fun H502 =>
ldI .i64 H502 (pad p499 0) fun n503 =>
ldB H502 (pad p499 1) fun t504 =>
ldB H502 (pad p499 2) fun t505 =>
ldB H502 (pad p499 3) fun t506 =>
K n503 t504 t505 t506 H502)
 else (hnil p496 fun p507 =>
hfad 2 p507 fun p508 =>
ldL H500 p508 fun q509 l510 c511 =>
hnil p496 fun p512 =>
hfad 0 p512 fun p513 =>
ldI .i64 H500 p513 fun n514 =>
hidx q509 l510 (IntKind.wrap .i64 ((IntKind.wrap .i64 (n498 * n514)) + n497)) 4 fun p515 =>
ldI .i64 H500 (pad p515 0) fun n516 =>
ldB H500 (pad p515 1) fun t517 =>
ldB H500 (pad p515 2) fun t518 =>
ldB H500 (pad p515 3) fun t519 =>
hst H500 p499 [.int .i64 n516, .bool t517, .bool t518, .bool t519] fun H520 =>
ldI .i64 H520 (pad p499 0) fun n521 =>
ldB H520 (pad p499 1) fun t522 =>
ldB H520 (pad p499 2) fun t523 =>
ldB H520 (pad p499 3) fun t524 =>
K n521 t522 t523 t524 H520)

def R14_Block_get {R : Type} (p496 : Option Addr) (n497 : Int) (n498 : Int) (H : Heap) (K : Int → Bool → Bool → Bool → Heap → Option R) : Option R := R14_Block_get_b R14_Block_in 0 p496 n497 n498 H K

def R14_Block_get_Ct {R : Type} (R14_Block_in : Option Addr → Int → Int → Heap → (Bool → Option R) → Option R) : Tab R := tcons 61 (R14_Block_in_ca R14_Block_in) <| fun _ _ _ _ => none
def R14_Block_get_C (R : Type) (k : Nat) : Tab R := R14_Block_get_Ct R14_Block_in
theorem R14_Block_get_S (R : Type) (k : Nat) : CSound Try.prog (R14_Block_get_C R k) := csound_cons (R14_Block_in_cs R k) <| csound_nil
def R14_Block_get_Jt {R : Type} (k : Nat) : JTab R := fun _ _ _ _ => none
def R14_Block_get_J (R : Type) (k : Nat) : JTab R := R14_Block_get_Jt k
def R14_Block_get_at : AT := (.seq (.reg [0, 1, 2, 6] []) (.seq (.seq (.reg [0, 1, 2, 6, 11] []) (.cond (.seq (.reg [6] []) .leaf) .leaf)) (.seq (.reg [6] [[], [0], [0, 1], [0, 1, 2], [], [], [5], [5, 6], [5, 6, 7], [4, 5, 6, 7, 8], [], [4, 5, 6, 7, 8, 9, 10], [0, 1, 2, 3, 4, 5, 6, 7, 8, 9, 10, 11], [0, 1, 2, 3, 4, 5, 6, 7, 8, 9, 10, 11, 12], [0, 1, 2, 3, 4, 5, 6, 7, 8, 9, 10, 11, 12, 13]]) .leaf)))
def R14_Block_get_f : IFn := ⟨27, [.cell 6 (.agg [(.int .i64), .bool, .bool, .bool])], (.seq (.reg [⟨some 6, .alc [.int .i64 0, .bool false, .bool false, .bool false], none⟩] [0, 1, 2, 6]) (.seq (.seq (.reg [⟨some 7, .mov (.t 0), none⟩,
 ⟨some 8, .mov (.t 1), none⟩,
 ⟨some 9, .mov (.t 2), none⟩,
 ⟨some 10, .call 61 [(.t 7), (.t 8), (.t 9)] (.one (.sc .bool)), none⟩,
 ⟨some 11, .lnot (.t 10), none⟩] [0, 1, 2, 6, 11]) (.cond (.t 11) (.seq (.reg [⟨some 12, .bld [.int .i64 0, .bool false, .bool false, .bool false] [], none⟩,
 ⟨none, .st 4 (.t 6) (.t 12), none⟩] [6]) .ret) .skip)) (.seq (.reg [⟨some 13, .mov (.t 0), none⟩,
 ⟨some 14, .nilc (.t 13), none⟩,
 ⟨some 15, .fad 2 (.t 14), none⟩,
 ⟨some 16, .ld (.sc .slc) (.t 15), none⟩,
 ⟨some 17, .mov (.t 2), none⟩,
 ⟨some 18, .mov (.t 0), none⟩,
 ⟨some 19, .nilc (.t 18), none⟩,
 ⟨some 20, .fad 0 (.t 19), none⟩,
 ⟨some 21, .ld (.sc (.int .i64)) (.t 20), none⟩,
 ⟨some 22, .bin .mul .i64 (.t 17) (.t 21), none⟩,
 ⟨some 23, .mov (.t 1), none⟩,
 ⟨some 24, .bin .add .i64 (.t 22) (.t 23), none⟩,
 ⟨some 25, .ids 4 (.t 16) (.t 24), none⟩,
 ⟨some 26, .ld (.agg [(.int .i64), .bool, .bool, .bool]) (.t 25), none⟩,
 ⟨none, .st 4 (.t 6) (.t 26), none⟩] [6]) .ret)))⟩
def R14_Block_get_ca {R : Type} (f : Option Addr → Int → Int → Heap → (Int → Bool → Bool → Bool → Heap → Option R) → Option R) (args : List Value) (H : Heap) (K : Value → Heap → Option R) : Option R :=
  match args with
  | [.pointer p496, .int .i64 n497, .int .i64 n498] => f p496 n497 n498 H (fun n1197 t1198 t1199 t1200 H => K (.agg ⟨[.int .i64 n1197, .bool t1198, .bool t1199, .bool t1200]⟩) H)
  | _ => none
def R14_Block_get_c (R : Type) (k : Nat) (args : List Value) (H : Heap) (K : Value → Heap → Option R) : Option R := R14_Block_get_ca R14_Block_get args H K
theorem R14_Block_get_e {R : Type} (R14_Block_in : Option Addr → Int → Int → Heap → (Bool → Option R) → Option R) (k : Nat) (p496 : Option Addr) (n497 : Int) (n498 : Int) (H : Heap) (K : Value → Heap → Option R) : evF (R14_Block_get_Ct R14_Block_in) (R14_Block_get_Jt k) R14_Block_get_f [.pointer p496, .int .i64 n497, .int .i64 n498] H K = R14_Block_get_b R14_Block_in k p496 n497 n498 H (fun n1197 t1198 t1199 t1200 H => K (.agg ⟨[.int .i64 n1197, .bool t1198, .bool t1199, .bool t1200]⟩) H) := by kernel_rfl
theorem R14_Block_get_cs (R : Type) (k : Nat) : ∀ args H K r, R14_Block_get_c R k args H K = some r → ∃ v H', Tri Try.prog 66 args H v H' ∧ K v H' = some r := by
  intro args H K r h
  unfold R14_Block_get_c R14_Block_get_ca at h
  split at h
  · exact evF_ok (C := R14_Block_get_C R 0) (an := An) (t := R14_Block_get_at) (fn := Try.f66) (c := (Try.f66.body.getD .skip)) (ifn := R14_Block_get_f) (R14_Block_get_S R 0) (R14_Block_get_J R 0) Try.func66 (by kernel_rfl) (by kernel_rfl) (And.intro True.intro (And.intro (And.intro True.intro (And.intro (And.intro True.intro True.intro) True.intro)) (And.intro True.intro True.intro))) rfl (Eq.trans (R14_Block_get_e R14_Block_in 0 _ _ _ H K) h)
  · cases h
end Go.Proofs.Ytblpaolcgkjcgaa.Sh
