/- Lean functions that stand for Go's, over an explicit heap, and the proofs that they do (written by this claim's program shallow.py). -/
import Derived.Test.YtoeoolnkndkefaaSh0
set_option maxRecDepth 100000
set_option linter.unusedVariables false
set_option linter.unusedSimpArgs false
namespace Go.Proofs.Ytoeoolnkndkefaa.Sh
open Go.Proofs.Ytoeoolnkndkefaa.FW
/-! ### L_bounded: function 11 -/
def L_bounded_b {R : Type} (k : Nat) (n15 : Int) (n16 : Int) (n17 : Int) (n18 : Int) (K : Bool → Option R) : Option R :=
bif decide ((IntKind.wrap .i64 (0 - n18)) ≤ n15) then (bif decide (n15 ≤ n18) then (bif decide ((IntKind.wrap .i64 (0 - n18)) ≤ n16) then (bif decide (n16 ≤ n18) then (bif decide ((IntKind.wrap .i64 (0 - n18)) ≤ n17) then (K (decide (n17 ≤ n18)))
 else (K false))
 else (K false))
 else (K false))
 else (K false))
 else (K false)

def L_bounded {R : Type} (n15 : Int) (n16 : Int) (n17 : Int) (n18 : Int) (K : Bool → Option R) : Option R := L_bounded_b 0 n15 n16 n17 n18 K

def L_bounded_Ct {R : Type} : Tab R := fun _ _ _ _ => none
def L_bounded_C (R : Type) (k : Nat) : Tab R := L_bounded_Ct
theorem L_bounded_S (R : Type) (k : Nat) : CSound Try.prog (L_bounded_C R k) := csound_nil
def L_bounded_Jt {R : Type} (k : Nat) : JTab R := fun _ _ _ _ => none
def L_bounded_J (R : Type) (k : Nat) : JTab R := L_bounded_Jt k
def L_bounded_at : AT := (.seq (.reg [0, 1, 2, 3] []) (.seq (.reg [8] []) .leaf))
def L_bounded_f : IFn := ⟨40, [.t 8], (.seq (.reg [⟨some 8, .mov (.c (Go.Value.bool false)), none⟩] [0, 1, 2, 3]) (.seq (.reg [⟨some 9, .mov (.t 3), none⟩,
 ⟨some 10, .neg .i64 (.t 9), none⟩,
 ⟨some 11, .mov (.t 0), none⟩,
 ⟨some 12, .cmp .leq (.t 10) (.t 11), none⟩,
 ⟨some 13, .mov (.t 12), none⟩,
 ⟨some 14, .mov (.t 0), some (13, true)⟩,
 ⟨some 15, .mov (.t 3), some (13, true)⟩,
 ⟨some 16, .cmp .leq (.t 14) (.t 15), some (13, true)⟩,
 ⟨some 17, .pick (.t 13) (.t 16) (.c (Go.Value.bool false)), none⟩,
 ⟨some 18, .mov (.t 17), none⟩,
 ⟨some 19, .mov (.t 3), some (18, true)⟩,
 ⟨some 20, .neg .i64 (.t 19), some (18, true)⟩,
 ⟨some 21, .mov (.t 1), some (18, true)⟩,
 ⟨some 22, .cmp .leq (.t 20) (.t 21), some (18, true)⟩,
 ⟨some 23, .pick (.t 18) (.t 22) (.c (Go.Value.bool false)), none⟩,
 ⟨some 24, .mov (.t 23), none⟩,
 ⟨some 25, .mov (.t 1), some (24, true)⟩,
 ⟨some 26, .mov (.t 3), some (24, true)⟩,
 ⟨some 27, .cmp .leq (.t 25) (.t 26), some (24, true)⟩,
 ⟨some 28, .pick (.t 24) (.t 27) (.c (Go.Value.bool false)), none⟩,
 ⟨some 29, .mov (.t 28), none⟩,
 ⟨some 30, .mov (.t 3), some (29, true)⟩,
 ⟨some 31, .neg .i64 (.t 30), some (29, true)⟩,
 ⟨some 32, .mov (.t 2), some (29, true)⟩,
 ⟨some 33, .cmp .leq (.t 31) (.t 32), some (29, true)⟩,
 ⟨some 34, .pick (.t 29) (.t 33) (.c (Go.Value.bool false)), none⟩,
 ⟨some 35, .mov (.t 34), none⟩,
 ⟨some 36, .mov (.t 2), some (35, true)⟩,
 ⟨some 37, .mov (.t 3), some (35, true)⟩,
 ⟨some 38, .cmp .leq (.t 36) (.t 37), some (35, true)⟩,
 ⟨some 39, .pick (.t 35) (.t 38) (.c (Go.Value.bool false)), none⟩,
 ⟨some 8, .mov (.t 39), none⟩] [8]) .ret))⟩
def L_bounded_ca {R : Type} (f : Int → Int → Int → Int → (Bool → Option R) → Option R) (args : List Value) (H : Heap) (K : Value → Heap → Option R) : Option R :=
  match args with
  | [.int .i64 n15, .int .i64 n16, .int .i64 n17, .int .i64 n18] => f n15 n16 n17 n18 (fun t1162 => K (.bool t1162) H)
  | _ => none
def L_bounded_c (R : Type) (k : Nat) (args : List Value) (H : Heap) (K : Value → Heap → Option R) : Option R := L_bounded_ca L_bounded args H K
theorem L_bounded_e {R : Type} (k : Nat) (n15 : Int) (n16 : Int) (n17 : Int) (n18 : Int) (H : Heap) (K : Value → Heap → Option R) : evF (L_bounded_Ct) (L_bounded_Jt k) L_bounded_f [.int .i64 n15, .int .i64 n16, .int .i64 n17, .int .i64 n18] H K = L_bounded_b k n15 n16 n17 n18 (fun t1162 => K (.bool t1162) H) := by kernel_rfl
theorem L_bounded_cs (R : Type) (k : Nat) : ∀ args H K r, L_bounded_c R k args H K = some r → ∃ v H', Tri Try.prog 11 args H v H' ∧ K v H' = some r := by
  intro args H K r h
  unfold L_bounded_c L_bounded_ca at h
  split at h
  · exact evF_ok (C := L_bounded_C R 0) (an := An) (t := L_bounded_at) (fn := Try.f11) (c := (Try.f11.body.getD .skip)) (ifn := L_bounded_f) (L_bounded_S R 0) (L_bounded_J R 0) Try.func11 (by kernel_rfl) (by kernel_rfl) (And.intro True.intro (And.intro True.intro True.intro)) rfl (Eq.trans (L_bounded_e 0 _ _ _ _ H K) h)
  · cases h
end Go.Proofs.Ytoeoolnkndkefaa.Sh
