/- Lean functions that stand for Go's, over an explicit heap, and the proofs that they do (written by this claim's program shallow.py). -/
import Derived.Test.YtblpaolcgkjcgaaSh0
set_option maxRecDepth 100000
set_option linter.unusedVariables false
set_option linter.unusedSimpArgs false
namespace Go.Proofs.Ytblpaolcgkjcgaa.Sh
open Go.Proofs.Ytblpaolcgkjcgaa.FW
/-! ### L_small: function 22 -/
def L_small_b {R : Type} (k : Nat) (n411 : Int) (n412 : Int) (q413 : Option Addr) (l414 : Nat) (c415 : Nat) (K : Bool → Option R) : Option R :=
bif decide (1 ≤ n411) then (bif decide (n411 ≤ 12) then (bif decide (1 ≤ n412) then (bif decide (n412 ≤ 12) then (K (decide (((l414 : Nat) : Int) ≤ 100)))
 else (K false))
 else (K false))
 else (K false))
 else (K false)

def L_small {R : Type} (n411 : Int) (n412 : Int) (q413 : Option Addr) (l414 : Nat) (c415 : Nat) (K : Bool → Option R) : Option R := L_small_b 0 n411 n412 q413 l414 c415 K

def L_small_Ct {R : Type} : Tab R := fun _ _ _ _ => none
def L_small_C (R : Type) (k : Nat) : Tab R := L_small_Ct
theorem L_small_S (R : Type) (k : Nat) : CSound Try.prog (L_small_C R k) := csound_nil
def L_small_Jt {R : Type} (k : Nat) : JTab R := fun _ _ _ _ => none
def L_small_J (R : Type) (k : Nat) : JTab R := L_small_Jt k
def L_small_at : AT := (.seq (.reg [0, 1, 2] []) (.seq (.reg [6] []) .leaf))
def L_small_f : IFn := ⟨26, [.t 6], (.seq (.reg [⟨some 6, .mov (.c (Go.Value.bool false)), none⟩] [0, 1, 2]) (.seq (.reg [⟨some 7, .mov (.t 0), none⟩,
 ⟨some 8, .cmp .leq (.c (Go.Value.int Go.IntKind.i64 1)) (.t 7), none⟩,
 ⟨some 9, .mov (.t 8), none⟩,
 ⟨some 10, .mov (.t 0), some (9, true)⟩,
 ⟨some 11, .cmp .leq (.t 10) (.c (Go.Value.int Go.IntKind.i64 12)), some (9, true)⟩,
 ⟨some 12, .pick (.t 9) (.t 11) (.c (Go.Value.bool false)), none⟩,
 ⟨some 13, .mov (.t 12), none⟩,
 ⟨some 14, .mov (.t 1), some (13, true)⟩,
 ⟨some 15, .cmp .leq (.c (Go.Value.int Go.IntKind.i64 1)) (.t 14), some (13, true)⟩,
 ⟨some 16, .pick (.t 13) (.t 15) (.c (Go.Value.bool false)), none⟩,
 ⟨some 17, .mov (.t 16), none⟩,
 ⟨some 18, .mov (.t 1), some (17, true)⟩,
 ⟨some 19, .cmp .leq (.t 18) (.c (Go.Value.int Go.IntKind.i64 12)), some (17, true)⟩,
 ⟨some 20, .pick (.t 17) (.t 19) (.c (Go.Value.bool false)), none⟩,
 ⟨some 21, .mov (.t 20), none⟩,
 ⟨some 22, .mov (.t 2), some (21, true)⟩,
 ⟨some 23, .len false (.t 22), some (21, true)⟩,
 ⟨some 24, .cmp .leq (.t 23) (.c (Go.Value.int Go.IntKind.i64 100)), some (21, true)⟩,
 ⟨some 25, .pick (.t 21) (.t 24) (.c (Go.Value.bool false)), none⟩,
 ⟨some 6, .mov (.t 25), none⟩] [6]) .ret))⟩
def L_small_ca {R : Type} (f : Int → Int → Option Addr → Nat → Nat → (Bool → Option R) → Option R) (args : List Value) (H : Heap) (K : Value → Heap → Option R) : Option R :=
  match args with
  | [.int .i64 n411, .int .i64 n412, .slice q413 l414 c415] => f n411 n412 q413 l414 c415 (fun t1174 => K (.bool t1174) H)
  | _ => none
def L_small_c (R : Type) (k : Nat) (args : List Value) (H : Heap) (K : Value → Heap → Option R) : Option R := L_small_ca L_small args H K
theorem L_small_e {R : Type} (k : Nat) (n411 : Int) (n412 : Int) (q413 : Option Addr) (l414 : Nat) (c415 : Nat) (H : Heap) (K : Value → Heap → Option R) : evF (L_small_Ct) (L_small_Jt k) L_small_f [.int .i64 n411, .int .i64 n412, .slice q413 l414 c415] H K = L_small_b k n411 n412 q413 l414 c415 (fun t1174 => K (.bool t1174) H) := by kernel_rfl
theorem L_small_cs (R : Type) (k : Nat) : ∀ args H K r, L_small_c R k args H K = some r → ∃ v H', Tri Try.prog 22 args H v H' ∧ K v H' = some r := by
  intro args H K r h
  unfold L_small_c L_small_ca at h
  split at h
  · exact evF_ok (C := L_small_C R 0) (an := An) (t := L_small_at) (fn := Try.f22) (c := (Try.f22.body.getD .skip)) (ifn := L_small_f) (L_small_S R 0) (L_small_J R 0) Try.func22 (by kernel_rfl) (by kernel_rfl) (And.intro True.intro (And.intro True.intro True.intro)) rfl (Eq.trans (L_small_e 0 _ _ _ _ _ H K) h)
  · cases h
end Go.Proofs.Ytblpaolcgkjcgaa.Sh
