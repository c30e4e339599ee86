/- Lean functions that stand for Go's, over an explicit heap, and the proofs that they do (written by this claim's program shallow.py). -/
import Derived.Test.YtblpaolcgkjcgaaSh0
set_option maxRecDepth 100000
set_option linter.unusedVariables false
set_option linter.unusedSimpArgs false
namespace Go.Proofs.Ytblpaolcgkjcgaa.Sh
open Go.Proofs.Ytblpaolcgkjcgaa.FW
/-! ### R14_ValidSize: function 41 -/
def R14_ValidSize_b {R : Type} (k : Nat) (n81 : Int) (n82 : Int) (K : Bool → Option R) : Option R :=
bif decide (1 ≤ n81) then (bif decide (n81 ≤ 64) then (bif decide (1 ≤ n82) then (K (decide (n82 ≤ 64)))
 else (K false))
 else (K false))
 else (K false)

def R14_ValidSize {R : Type} (n81 : Int) (n82 : Int) (K : Bool → Option R) : Option R := R14_ValidSize_b 0 n81 n82 K

def R14_ValidSize_Ct {R : Type} : Tab R := fun _ _ _ _ => none
def R14_ValidSize_C (R : Type) (k : Nat) : Tab R := R14_ValidSize_Ct
theorem R14_ValidSize_S (R : Type) (k : Nat) : CSound Try.prog (R14_ValidSize_C R k) := csound_nil
def R14_ValidSize_Jt {R : Type} (k : Nat) : JTab R := fun _ _ _ _ => none
def R14_ValidSize_J (R : Type) (k : Nat) : JTab R := R14_ValidSize_Jt k
def R14_ValidSize_at : AT := (.seq (.reg [0, 1] []) (.seq (.reg [4] []) .leaf))
def R14_ValidSize_f : IFn := ⟨19, [.t 4], (.seq (.reg [⟨some 4, .mov (.c (Go.Value.bool false)), none⟩] [0, 1]) (.seq (.reg [⟨some 5, .mov (.t 0), none⟩,
 ⟨some 6, .cmp .leq (.c (Go.Value.int Go.IntKind.i64 1)) (.t 5), none⟩,
 ⟨some 7, .mov (.t 6), none⟩,
 ⟨some 8, .mov (.t 0), some (7, true)⟩,
 ⟨some 9, .cmp .leq (.t 8) (.c (Go.Value.int Go.IntKind.i64 64)), some (7, true)⟩,
 ⟨some 10, .pick (.t 7) (.t 9) (.c (Go.Value.bool false)), none⟩,
 ⟨some 11, .mov (.t 10), none⟩,
 ⟨some 12, .mov (.t 1), some (11, true)⟩,
 ⟨some 13, .cmp .leq (.c (Go.Value.int Go.IntKind.i64 1)) (.t 12), some (11, true)⟩,
 ⟨some 14, .pick (.t 11) (.t 13) (.c (Go.Value.bool false)), none⟩,
 ⟨some 15, .mov (.t 14), none⟩,
 ⟨some 16, .mov (.t 1), some (15, true)⟩,
 ⟨some 17, .cmp .leq (.t 16) (.c (Go.Value.int Go.IntKind.i64 64)), some (15, true)⟩,
 ⟨some 18, .pick (.t 15) (.t 17) (.c (Go.Value.bool false)), none⟩,
 ⟨some 4, .mov (.t 18), none⟩] [4]) .ret))⟩
def R14_ValidSize_ca {R : Type} (f : Int → Int → (Bool → Option R) → Option R) (args : List Value) (H : Heap) (K : Value → Heap → Option R) : Option R :=
  match args with
  | [.int .i64 n81, .int .i64 n82] => f n81 n82 (fun t1173 => K (.bool t1173) H)
  | _ => none
def R14_ValidSize_c (R : Type) (k : Nat) (args : List Value) (H : Heap) (K : Value → Heap → Option R) : Option R := R14_ValidSize_ca R14_ValidSize args H K
theorem R14_ValidSize_e {R : Type} (k : Nat) (n81 : Int) (n82 : Int) (H : Heap) (K : Value → Heap → Option R) : evF (R14_ValidSize_Ct) (R14_ValidSize_Jt k) R14_ValidSize_f [.int .i64 n81, .int .i64 n82] H K = R14_ValidSize_b k n81 n82 (fun t1173 => K (.bool t1173) H) := by kernel_rfl
theorem R14_ValidSize_cs (R : Type) (k : Nat) : ∀ args H K r, R14_ValidSize_c R k args H K = some r → ∃ v H', Tri Try.prog 41 args H v H' ∧ K v H' = some r := by
  intro args H K r h
  unfold R14_ValidSize_c R14_ValidSize_ca at h
  split at h
  · exact evF_ok (C := R14_ValidSize_C R 0) (an := An) (t := R14_ValidSize_at) (fn := Try.f41) (c := (Try.f41.body.getD .skip)) (ifn := R14_ValidSize_f) (R14_ValidSize_S R 0) (R14_ValidSize_J R 0) Try.func41 (by kernel_rfl) (by kernel_rfl) (And.intro True.intro (And.intro True.intro True.intro)) rfl (Eq.trans (R14_ValidSize_e 0 _ _ H K) h)
  · cases h
end Go.Proofs.Ytblpaolcgkjcgaa.Sh
