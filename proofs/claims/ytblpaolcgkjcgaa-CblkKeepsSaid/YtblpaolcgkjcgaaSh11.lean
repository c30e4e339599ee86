/- Lean functions that stand for Go's, over an explicit heap, and the proofs that they do (written by this claim's program shallow.py). -/
import Derived.Test.YtblpaolcgkjcgaaSh0
set_option maxRecDepth 100000
set_option linter.unusedVariables false
set_option linter.unusedSimpArgs false
namespace Go.Proofs.Ytblpaolcgkjcgaa.Sh
open Go.Proofs.Ytblpaolcgkjcgaa.FW
/-! ### cblk_Block_Size: function 37 -/
def cblk_Block_Size_b {R : Type} (k : Nat) (p852 : Option Addr) (H : Heap) (K : Int → Int → Option R) : Option R :=
bif p852.isNone then (K 0 0)
 else (hnil p852 fun p853 =>
hfad 0 p853 fun p854 =>
ldI .i64 H p854 fun n855 =>
hnil p852 fun p856 =>
hfad 1 p856 fun p857 =>
ldI .i64 H p857 fun n858 =>
K n855 n858)

def cblk_Block_Size {R : Type} (p852 : Option Addr) (H : Heap) (K : Int → Int → Option R) : Option R := cblk_Block_Size_b 0 p852 H K

def cblk_Block_Size_Ct {R : Type} : Tab R := fun _ _ _ _ => none
def cblk_Block_Size_C (R : Type) (k : Nat) : Tab R := cblk_Block_Size_Ct
theorem cblk_Block_Size_S (R : Type) (k : Nat) : CSound Try.prog (cblk_Block_Size_C R k) := csound_nil
def cblk_Block_Size_Jt {R : Type} (k : Nat) : JTab R := fun _ _ _ _ => none
def cblk_Block_Size_J (R : Type) (k : Nat) : JTab R := cblk_Block_Size_Jt k
def cblk_Block_Size_at : AT := (.seq (.reg [0] []) (.seq (.seq (.reg [0, 5] []) (.cond (.seq (.reg [2, 3] []) .leaf) .leaf)) (.seq (.reg [2, 3] [[], [0], [0, 1], [0, 1, 2], [], [4], [4, 5], [4, 5, 6], [0, 1, 2, 3], [0, 1, 2, 3, 4, 5, 6, 7, 8]]) .leaf)))
def cblk_Block_Size_f : IFn := ⟨14, [.t 2, .t 3], (.seq (.reg [⟨some 2, .mov (.c (Go.Value.int Go.IntKind.i64 0)), none⟩,
 ⟨some 3, .mov (.c (Go.Value.int Go.IntKind.i64 0)), none⟩] [0]) (.seq (.seq (.reg [⟨some 4, .mov (.t 0), none⟩,
 ⟨some 5, .eqnil (.t 4) false 0, none⟩] [0, 5]) (.cond (.t 5) (.seq (.reg [⟨some 2, .mov (.c (Go.Value.int Go.IntKind.i64 0)), none⟩,
 ⟨some 3, .mov (.c (Go.Value.int Go.IntKind.i64 0)), none⟩] [2, 3]) .ret) .skip)) (.seq (.reg [⟨some 6, .mov (.t 0), none⟩,
 ⟨some 7, .nilc (.t 6), none⟩,
 ⟨some 8, .fad 0 (.t 7), none⟩,
 ⟨some 9, .ld (.sc (.int .i64)) (.t 8), none⟩,
 ⟨some 10, .mov (.t 0), none⟩,
 ⟨some 11, .nilc (.t 10), none⟩,
 ⟨some 12, .fad 1 (.t 11), none⟩,
 ⟨some 13, .ld (.sc (.int .i64)) (.t 12), none⟩,
 ⟨some 2, .mov (.t 9), none⟩,
 ⟨some 3, .mov (.t 13), none⟩] [2, 3]) .ret)))⟩
def cblk_Block_Size_ca {R : Type} (f : Option Addr → Heap → (Int → Int → Option R) → Option R) (args : List Value) (H : Heap) (K : Value → Heap → Option R) : Option R :=
  match args with
  | [.pointer p852] => f p852 H (fun n1201 n1202 => K (.tuple ⟨[.int .i64 n1201, .int .i64 n1202]⟩) H)
  | _ => none
def cblk_Block_Size_c (R : Type) (k : Nat) (args : List Value) (H : Heap) (K : Value → Heap → Option R) : Option R := cblk_Block_Size_ca cblk_Block_Size args H K
theorem cblk_Block_Size_e {R : Type} (k : Nat) (p852 : Option Addr) (H : Heap) (K : Value → Heap → Option R) : evF (cblk_Block_Size_Ct) (cblk_Block_Size_Jt k) cblk_Block_Size_f [.pointer p852] H K = cblk_Block_Size_b k p852 H (fun n1201 n1202 => K (.tuple ⟨[.int .i64 n1201, .int .i64 n1202]⟩) H) := by kernel_rfl
theorem cblk_Block_Size_cs (R : Type) (k : Nat) : ∀ args H K r, cblk_Block_Size_c R k args H K = some r → ∃ v H', Tri Try.prog 37 args H v H' ∧ K v H' = some r := by
  intro args H K r h
  unfold cblk_Block_Size_c cblk_Block_Size_ca at h
  split at h
  · exact evF_ok (C := cblk_Block_Size_C R 0) (an := An) (t := cblk_Block_Size_at) (fn := Try.f37) (c := (Try.f37.body.getD .skip)) (ifn := cblk_Block_Size_f) (cblk_Block_Size_S R 0) (cblk_Block_Size_J R 0) Try.func37 (by kernel_rfl) (by kernel_rfl) (And.intro True.intro (And.intro (And.intro True.intro (And.intro (And.intro True.intro True.intro) True.intro)) (And.intro True.intro True.intro))) rfl (Eq.trans (cblk_Block_Size_e 0 _ H K) h)
  · cases h
end Go.Proofs.Ytblpaolcgkjcgaa.Sh
