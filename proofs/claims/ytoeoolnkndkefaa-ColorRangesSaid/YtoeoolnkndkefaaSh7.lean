/- Lean functions that stand for Go's, over an explicit heap, and the proofs that they do (written by this claim's program shallow.py). -/
import Derived.Test.YtoeoolnkndkefaaSh0
set_option maxRecDepth 100000
set_option linter.unusedVariables false
set_option linter.unusedSimpArgs false
namespace Go.Proofs.Ytoeoolnkndkefaa.Sh
open Go.Proofs.Ytoeoolnkndkefaa.FW
/-! ### R07_ValidKind: function 49 -/
def R07_ValidKind_b {R : Type} (k : Nat) (n126 : Int) (K : Bool → Option R) : Option R :=
bif (n126 == 0) then (K true)
 else (bif (n126 == 1) then (K true)
 else (K (n126 == 2)))

def R07_ValidKind {R : Type} (n126 : Int) (K : Bool → Option R) : Option R := R07_ValidKind_b 0 n126 K

def R07_ValidKind_Ct {R : Type} : Tab R := fun _ _ _ _ => none
def R07_ValidKind_C (R : Type) (k : Nat) : Tab R := R07_ValidKind_Ct
theorem R07_ValidKind_S (R : Type) (k : Nat) : CSound Try.prog (R07_ValidKind_C R k) := csound_nil
def R07_ValidKind_Jt {R : Type} (k : Nat) : JTab R := fun _ _ _ _ => none
def R07_ValidKind_J (R : Type) (k : Nat) : JTab R := R07_ValidKind_Jt k
def R07_ValidKind_at : AT := (.seq (.reg [0] []) (.seq (.reg [2] []) .leaf))
def R07_ValidKind_f : IFn := ⟨13, [.t 2], (.seq (.reg [⟨some 2, .mov (.c (Go.Value.bool false)), none⟩] [0]) (.seq (.reg [⟨some 3, .mov (.t 0), none⟩,
 ⟨some 4, .cmp .eql (.t 3) (.c (Go.Value.int Go.IntKind.i64 0)), none⟩,
 ⟨some 5, .mov (.t 4), none⟩,
 ⟨some 6, .mov (.t 0), some (5, false)⟩,
 ⟨some 7, .cmp .eql (.t 6) (.c (Go.Value.int Go.IntKind.i64 1)), some (5, false)⟩,
 ⟨some 8, .pick (.t 5) (.c (Go.Value.bool true)) (.t 7), none⟩,
 ⟨some 9, .mov (.t 8), none⟩,
 ⟨some 10, .mov (.t 0), some (9, false)⟩,
 ⟨some 11, .cmp .eql (.t 10) (.c (Go.Value.int Go.IntKind.i64 2)), some (9, false)⟩,
 ⟨some 12, .pick (.t 9) (.c (Go.Value.bool true)) (.t 11), none⟩,
 ⟨some 2, .mov (.t 12), none⟩] [2]) .ret))⟩
def R07_ValidKind_ca {R : Type} (f : Int → (Bool → Option R) → Option R) (args : List Value) (H : Heap) (K : Value → Heap → Option R) : Option R :=
  match args with
  | [.int .i64 n126] => f n126 (fun t1153 => K (.bool t1153) H)
  | _ => none
def R07_ValidKind_c (R : Type) (k : Nat) (args : List Value) (H : Heap) (K : Value → Heap → Option R) : Option R := R07_ValidKind_ca R07_ValidKind args H K
theorem R07_ValidKind_e {R : Type} (k : Nat) (n126 : Int) (H : Heap) (K : Value → Heap → Option R) : evF (R07_ValidKind_Ct) (R07_ValidKind_Jt k) R07_ValidKind_f [.int .i64 n126] H K = R07_ValidKind_b k n126 (fun t1153 => K (.bool t1153) H) := by kernel_rfl
theorem R07_ValidKind_cs (R : Type) (k : Nat) : ∀ args H K r, R07_ValidKind_c R k args H K = some r → ∃ v H', Tri Try.prog 49 args H v H' ∧ K v H' = some r := by
  intro args H K r h
  unfold R07_ValidKind_c R07_ValidKind_ca at h
  split at h
  · exact evF_ok (C := R07_ValidKind_C R 0) (an := An) (t := R07_ValidKind_at) (fn := Try.f49) (c := (Try.f49.body.getD .skip)) (ifn := R07_ValidKind_f) (R07_ValidKind_S R 0) (R07_ValidKind_J R 0) Try.func49 (by kernel_rfl) (by kernel_rfl) (And.intro True.intro (And.intro True.intro True.intro)) rfl (Eq.trans (R07_ValidKind_e 0 _ H K) h)
  · cases h
end Go.Proofs.Ytoeoolnkndkefaa.Sh
