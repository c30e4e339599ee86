/- Lean functions that stand for Go's, over an explicit heap, and the proofs that they do (written by this claim's program shallow.py). -/
import Derived.Test.YtiapgcgpdndkiaaSh0
import Derived.Test.YtiapgcgpdndkiaaSh2
import Derived.Test.YtiapgcgpdndkiaaSh4
import Derived.Test.YtiapgcgpdndkiaaSh6
set_option maxRecDepth 100000
set_option linter.unusedVariables false
set_option linter.unusedSimpArgs false
namespace Go.Proofs.Ytiapgcgpdndkiaa.Sh
open Go.Proofs.Ytiapgcgpdndkiaa.FW
/-! ### L_BitioNobody: function 9 -/
def L_BitioNobody_p0_b {R : Type} (k : Nat) (t815 : Bool) (p816 : Option Addr) (p817 : Option Addr) (p818 : Option Addr) (H : Heap) (KN : Option Addr → Option Addr → Option Addr → Heap → Option R) : Option R :=
bif t815 then (hal H [.bool false, .slice none 0 0, .int .u8 0, .int .i64 0, .int .i64 0, .int .i64 0] fun p819 H820 =>
hal H820 [.bool false, .slice none 0 0, .int .i64 0, .int .i64 0] fun p821 H822 =>
KN p816 p819 p821 H822)
 else (KN p816 p817 p818 H)
def L_BitioNobody_p0 {R : Type} (k : Nat) (t815 : Bool) (p816 : Option Addr) (p817 : Option Addr) (p818 : Option Addr) (H : Heap) (KN : Option Addr → Option Addr → Option Addr → Heap → Option R) : Option R := L_BitioNobody_p0_b k t815 p816 p817 p818 H KN

def L_BitioNobody_b {R : Type} (L_BitioNobody_p0 : Bool → Option Addr → Option Addr → Option Addr → Heap → (Option Addr → Option Addr → Option Addr → Heap → Option R) → Option R) (L_read : Option Addr → Int → Int → Int → Heap → (Int → Int → Heap → Option R) → Option R) (L_write : Option Addr → Int → Int → Int → Heap → (Int → Heap → Option R) → Option R) (bitio_Writer_Len : Option Addr → Heap → (Int → Option R) → Option R) (bitio_Writer_Bytes : Option Addr → Heap → (Option Addr → Nat → Nat → Heap → Option R) → Option R) (L_exampleHoldsq : (Bool → Option R) → Option R) (k : Nat) (n809 : Int) (n810 : Int) (n811 : Int) (t812 : Bool) (H : Heap) (K : Bool → Heap → Option R) : Option R :=
hal H [.int .i64 n809, .int .i64 n810, .int .i64 n811] fun p813 H814 =>
L_BitioNobody_p0 t812 p813 none none H814 (fun p826 p827 p828 H829 =>
hfrz H829 p826 fun H830 =>
ldI .i64 H830 (pad p826 0) fun n831 =>
ldI .i64 H830 (pad p826 1) fun n832 =>
ldI .i64 H830 (pad p826 2) fun n833 =>
bif isRo H830 p826 then (ldI .i64 H830 (pad p826 0) fun n834 =>
ldI .i64 H830 (pad p826 1) fun n835 =>
ldI .i64 H830 (pad p826 2) fun n836 =>
hal H830 [.int .i64 0, .int .i64 0, .int .i64 0] fun p837 H838 =>
hal H838 [.int .i64 0, .int .i64 0, .int .i64 0] fun p839 H840 =>
hst H840 p837 [.int .i64 n831, .int .i64 n832, .int .i64 n833] fun H841 =>
hst H841 p839 [.int .i64 n834, .int .i64 n835, .int .i64 n836] fun H842 =>
hfad 0 p826 fun p843 =>
ldI .i64 H842 p843 fun n844 =>
hbin .and .i64 n844 3 fun n845 =>
hfad 0 p826 fun p846 =>
bif isRo H842 p846 then (ldI .i64 H842 p846 fun n847 =>
hbin .and .i64 n847 7 fun n848 =>
hfad 0 p837 fun p849 =>
hst1 H842 p849 (.int .i64 n845) fun H850 =>
hfad 0 p839 fun p851 =>
hst1 H850 p851 (.int .i64 (Int.tmod n848 5)) fun H852 =>
ldI .i64 H852 (pad p839 0) fun n853 =>
ldI .i64 H852 (pad p839 1) fun n854 =>
ldI .i64 H852 (pad p839 2) fun n855 =>
L_read p828 n853 n854 n855 H852 fun n856 n857 H858 =>
ldI .i64 H858 (pad p837 0) fun n859 =>
ldI .i64 H858 (pad p837 1) fun n860 =>
ldI .i64 H858 (pad p837 2) fun n861 =>
L_write p827 n859 n860 n861 H858 fun n862 H863 =>
bif (n862 == 6) then (bitio_Writer_Len p827 H863 fun n864 =>
bif (n864 == 0) then (bitio_Writer_Bytes p827 H863 fun q865 l866 c867 H868 =>
bif (((l866 : Nat) : Int) == 0) then (bif (n856 == 0) then (bif (n857 == 6) then (L_exampleHoldsq fun t869 =>
K t869 H868)
 else (K false H868))
 else (K false H868))
 else (K false H868))
 else (K false H863))
 else (K false H863))
 else none)
 else none)

def L_BitioNobody {R : Type} (k : Nat) (n809 : Int) (n810 : Int) (n811 : Int) (t812 : Bool) (H : Heap) (K : Bool → Heap → Option R) : Option R := L_BitioNobody_b (L_BitioNobody_p0 k) (L_read k) (L_write k) bitio_Writer_Len (bitio_Writer_Bytes k) L_exampleHoldsq k n809 n810 n811 t812 H K

def L_BitioNobody_Ct {R : Type} (L_read : Option Addr → Int → Int → Int → Heap → (Int → Int → Heap → Option R) → Option R) (L_write : Option Addr → Int → Int → Int → Heap → (Int → Heap → Option R) → Option R) (bitio_Writer_Len : Option Addr → Heap → (Int → Option R) → Option R) (bitio_Writer_Bytes : Option Addr → Heap → (Option Addr → Nat → Nat → Heap → Option R) → Option R) (L_exampleHoldsq : (Bool → Option R) → Option R) : Tab R := tcons 27 (L_read_ca L_read) <| tcons 14 (L_write_ca L_write) <| tcons 16 (bitio_Writer_Len_ca bitio_Writer_Len) <| tcons 19 (bitio_Writer_Bytes_ca bitio_Writer_Bytes) <| tcons 11 (L_exampleHoldsq_ca L_exampleHoldsq) <| fun _ _ _ _ => none
def L_BitioNobody_C (R : Type) (k : Nat) : Tab R := L_BitioNobody_Ct (L_read k) (L_write k) bitio_Writer_Len (bitio_Writer_Bytes k) L_exampleHoldsq
theorem L_BitioNobody_S (R : Type) (k : Nat) : CSound Try.prog (L_BitioNobody_C R k) := csound_cons (L_read_cs R k) <| csound_cons (L_write_cs R k) <| csound_cons (bitio_Writer_Len_cs R k) <| csound_cons (bitio_Writer_Bytes_cs R k) <| csound_cons (L_exampleHoldsq_cs R k) <| csound_nil
def L_BitioNobody_aa0 {R : Type} (f : Bool → Option Addr → Option Addr → Option Addr → Heap → (Option Addr → Option Addr → Option Addr → Heap → Option R) → Option R) (n : Nat) (vals : List Value) (H : Heap) (K : Xit → Env → Heap → Option R) : Option R :=
  match vals with
  | [.bool t815, .pointer p816, .pointer p817, .pointer p818] => f t815 p816 p817 p818 H (fun p1294 p1295 p1296 H => K .normal [(2, .pointer p1294), (5, .pointer p1295), (6, .pointer p1296)] H)
  | _ => none
def L_BitioNobody_a0 (R : Type) (k n : Nat) (vals : List Value) (H : Heap) (K : Xit → Env → Heap → Option R) : Option R := L_BitioNobody_aa0 (L_BitioNobody_p0 k) n vals H K
def L_BitioNobody_Jt {R : Type} (k : Nat) (L_BitioNobody_p0 : Bool → Option Addr → Option Addr → Option Addr → Heap → (Option Addr → Option Addr → Option Addr → Heap → Option R) → Option R) : JTab R := tcons 0 (L_BitioNobody_aa0 L_BitioNobody_p0 k) <| fun _ _ _ _ => none
def L_BitioNobody_J (R : Type) (k : Nat) : JTab R := L_BitioNobody_Jt k (L_BitioNobody_p0 k)
def L_BitioNobody_at : AT := (.seq (.reg [1, 2] []) (.seq (.reg [1, 2, 5] []) (.seq (.reg [1, 2, 5, 6] []) (.seq (.opq 0 [1, 2, 5, 6] ⟨[2, 5, 6], [], []⟩ (.seq (.reg [2, 5, 6, 11] []) (.cond (.reg [2, 5, 6] []) .leaf))) (.seq (.frz 2 (.reg [2, 5, 6, 7, 8] [[], [], [], [], [0, 2, 3], [0, 1, 2, 3, 4]])) (.seq (.reg [5, 6, 7, 8] [[], [0], [0, 1], [], [3], [3, 4], [3, 4, 5], [0, 1, 2], [0, 1, 2, 7], [0, 1, 2, 3, 4, 5, 6, 7, 8], [0, 1, 2, 3, 4, 5, 6, 7, 8, 9]]) (.seq (.reg [5, 7, 9, 10] []) (.seq (.reg [4] []) .leaf))))))))
def L_BitioNobody_i0 : IC := (.seq (.reg [⟨some 11, .mov (.t 1), none⟩] [2, 5, 6, 11]) (.cond (.t 11) (.reg [⟨some 12, .bld [.bool false, .slice none 0 0, .int .u8 0, .int .i64 0, .int .i64 0, .int .i64 0] [], none⟩,
 ⟨some 13, .box (.t 12), none⟩,
 ⟨some 14, .bld [.bool false, .slice none 0 0, .int .i64 0, .int .i64 0] [], none⟩,
 ⟨some 15, .box (.t 14), none⟩,
 ⟨some 5, .mov (.t 13), none⟩,
 ⟨some 6, .mov (.t 15), none⟩] [2, 5, 6]) .skip))
def L_BitioNobody_f : IFn := ⟨59, [.t 4], (.seq (.reg [⟨some 2, .box (.t 0), none⟩,
 ⟨some 4, .mov (.c (Go.Value.bool false)), none⟩] [1, 2]) (.seq (.reg [⟨some 5, .mov (.c (Go.Value.pointer none)), none⟩] [1, 2, 5]) (.seq (.reg [⟨some 6, .mov (.c (Go.Value.pointer none)), none⟩] [1, 2, 5, 6]) (.seq (.opq 0 [1, 2, 5, 6] L_BitioNobody_i0) (.seq (.frz 2 (.reg [⟨some 16, .ld (.agg [(.int .i64), (.int .i64), (.int .i64)]) (.t 2), none⟩,
 ⟨some 17, .ldr (.agg [(.int .i64), (.int .i64), (.int .i64)]) (.t 2), none⟩,
 ⟨some 7, .alc [.int .i64 0, .int .i64 0, .int .i64 0], none⟩,
 ⟨some 8, .alc [.int .i64 0, .int .i64 0, .int .i64 0], none⟩,
 ⟨none, .st 3 (.t 7) (.t 16), none⟩,
 ⟨none, .st 3 (.t 8) (.t 17), none⟩] [2, 5, 6, 7, 8])) (.seq (.reg [⟨some 18, .fad 0 (.t 2), none⟩,
 ⟨some 19, .ld (.sc (.int .i64)) (.t 18), none⟩,
 ⟨some 20, .bin .and .i64 (.t 19) (.c (Go.Value.int Go.IntKind.i64 3)), none⟩,
 ⟨some 21, .fad 0 (.t 2), none⟩,
 ⟨some 22, .ldr (.sc (.int .i64)) (.t 21), none⟩,
 ⟨some 23, .bin .and .i64 (.t 22) (.c (Go.Value.int Go.IntKind.i64 7)), none⟩,
 ⟨some 24, .bin .rem .i64 (.t 23) (.c (Go.Value.int Go.IntKind.i64 5)), none⟩,
 ⟨some 25, .fad 0 (.t 7), none⟩,
 ⟨none, .st 1 (.t 25) (.t 20), none⟩,
 ⟨some 26, .fad 0 (.t 8), none⟩,
 ⟨none, .st 1 (.t 26) (.t 24), none⟩] [5, 6, 7, 8]) (.seq (.reg [⟨some 28, .mov (.t 6), none⟩,
 ⟨some 29, .ld (.agg [(.int .i64), (.int .i64), (.int .i64)]) (.t 8), none⟩,
 ⟨some 30, .call 27 [(.t 28), (.t 29)] (.tup [(.sc (.int .i64)), (.sc (.int .i64))]), none⟩,
 ⟨some 27, .mov (.t 30), none⟩,
 ⟨some 31, .ext 0 (.t 27), none⟩,
 ⟨some 32, .ext 1 (.t 27), none⟩,
 ⟨some 9, .mov (.t 31), none⟩,
 ⟨some 10, .mov (.t 32), none⟩] [5, 7, 9, 10]) (.seq (.reg [⟨some 33, .mov (.t 5), none⟩,
 ⟨some 34, .ld (.agg [(.int .i64), (.int .i64), (.int .i64)]) (.t 7), none⟩,
 ⟨some 35, .call 14 [(.t 33), (.t 34)] (.one (.sc (.int .i64))), none⟩,
 ⟨some 36, .cmp .eql (.t 35) (.c (Go.Value.int Go.IntKind.i64 6)), none⟩,
 ⟨some 37, .mov (.t 36), none⟩,
 ⟨some 38, .mov (.t 5), some (37, true)⟩,
 ⟨some 39, .call 16 [(.t 38)] (.one (.sc (.int .i64))), some (37, true)⟩,
 ⟨some 40, .cmp .eql (.t 39) (.c (Go.Value.int Go.IntKind.i64 0)), some (37, true)⟩,
 ⟨some 41, .pick (.t 37) (.t 40) (.c (Go.Value.bool false)), none⟩,
 ⟨some 42, .mov (.t 41), none⟩,
 ⟨some 43, .mov (.t 5), some (42, true)⟩,
 ⟨some 44, .call 19 [(.t 43)] (.one (.sc .slc)), some (42, true)⟩,
 ⟨some 45, .len false (.t 44), some (42, true)⟩,
 ⟨some 46, .cmp .eql (.t 45) (.c (Go.Value.int Go.IntKind.i64 0)), some (42, true)⟩,
 ⟨some 47, .pick (.t 42) (.t 46) (.c (Go.Value.bool false)), none⟩,
 ⟨some 48, .mov (.t 47), none⟩,
 ⟨some 49, .mov (.t 9), some (48, true)⟩,
 ⟨some 50, .cmp .eql (.t 49) (.c (Go.Value.int Go.IntKind.i64 0)), some (48, true)⟩,
 ⟨some 51, .pick (.t 48) (.t 50) (.c (Go.Value.bool false)), none⟩,
 ⟨some 52, .mov (.t 51), none⟩,
 ⟨some 53, .mov (.t 10), some (52, true)⟩,
 ⟨some 54, .cmp .eql (.t 53) (.c (Go.Value.int Go.IntKind.i64 6)), some (52, true)⟩,
 ⟨some 55, .pick (.t 52) (.t 54) (.c (Go.Value.bool false)), none⟩,
 ⟨some 56, .mov (.t 55), none⟩,
 ⟨some 57, .call 11 [] (.one (.sc .bool)), some (56, true)⟩,
 ⟨some 58, .pick (.t 56) (.t 57) (.c (Go.Value.bool false)), none⟩,
 ⟨some 4, .mov (.t 58), none⟩] [4]) .ret))))))))⟩
theorem L_BitioNobody_e0 {R : Type} (L_read : Option Addr → Int → Int → Int → Heap → (Int → Int → Heap → Option R) → Option R) (L_write : Option Addr → Int → Int → Int → Heap → (Int → Heap → Option R) → Option R) (bitio_Writer_Len : Option Addr → Heap → (Int → Option R) → Option R) (bitio_Writer_Bytes : Option Addr → Heap → (Option Addr → Nat → Nat → Heap → Option R) → Option R) (L_exampleHoldsq : (Bool → Option R) → Option R) (L_BitioNobody_p0 : Bool → Option Addr → Option Addr → Option Addr → Heap → (Option Addr → Option Addr → Option Addr → Heap → Option R) → Option R) (k : Nat) (t815 : Bool) (p816 : Option Addr) (p817 : Option Addr) (p818 : Option Addr) (H : Heap) (K : Xit → Env → Heap → Option R) : evJ (L_BitioNobody_Ct L_read L_write bitio_Writer_Len bitio_Writer_Bytes L_exampleHoldsq) (L_BitioNobody_Jt k L_BitioNobody_p0) L_BitioNobody_i0 (List.zip [1, 2, 5, 6] [.bool t815, .pointer p816, .pointer p817, .pointer p818]) H (fun x e' H' => K x (clean e' ((⟨[2, 5, 6], [], []⟩ : Out).of x)) H') = L_BitioNobody_p0_b k t815 p816 p817 p818 H (fun p1294 p1295 p1296 H => K .normal [(2, .pointer p1294), (5, .pointer p1295), (6, .pointer p1296)] H) := by kernel_rfl
theorem L_BitioNobody_j0 {R : Type} (k : Nat) : JS Try.prog 59 (L_BitioNobody_a0 R k k) [1, 2, 5, 6] ⟨[2, 5, 6], [], []⟩ (sel [1, 1, 1, 0] (Try.f9.body.getD .skip)) :=
  piece_ok (nt := 59) (c := (sel [1, 1, 1, 0] (Try.f9.body.getD .skip))) (C := L_BitioNobody_C R k) (an := An) (t := (.seq (.reg [2, 5, 6, 11] []) (.cond (.reg [2, 5, 6] []) .leaf))) (ic := L_BitioNobody_i0) (L_BitioNobody_S R k) (L_BitioNobody_J R k) (by kernel_rfl) (And.intro True.intro (And.intro True.intro True.intro)) (L_BitioNobody_a0 R k k)
    (fun vals H K r h => by
      unfold L_BitioNobody_a0 L_BitioNobody_aa0 at h
      split at h <;> first | (cases h; done) | exact Eq.trans (L_BitioNobody_e0 (L_read k) (L_write k) bitio_Writer_Len (bitio_Writer_Bytes k) L_exampleHoldsq (L_BitioNobody_p0 k) k _ _ _ _ H K) h)
def L_BitioNobody_ca {R : Type} (f : Int → Int → Int → Bool → Heap → (Bool → Heap → Option R) → Option R) (args : List Value) (H : Heap) (K : Value → Heap → Option R) : Option R :=
  match args with
  | [.agg ⟨[.int .i64 n809, .int .i64 n810, .int .i64 n811]⟩, .bool t812] => f n809 n810 n811 t812 H (fun t1297 H => K (.bool t1297) H)
  | _ => none
def L_BitioNobody_c (R : Type) (k : Nat) (args : List Value) (H : Heap) (K : Value → Heap → Option R) : Option R := L_BitioNobody_ca (L_BitioNobody k) args H K
theorem L_BitioNobody_e {R : Type} (L_read : Option Addr → Int → Int → Int → Heap → (Int → Int → Heap → Option R) → Option R) (L_write : Option Addr → Int → Int → Int → Heap → (Int → Heap → Option R) → Option R) (bitio_Writer_Len : Option Addr → Heap → (Int → Option R) → Option R) (bitio_Writer_Bytes : Option Addr → Heap → (Option Addr → Nat → Nat → Heap → Option R) → Option R) (L_exampleHoldsq : (Bool → Option R) → Option R) (L_BitioNobody_p0 : Bool → Option Addr → Option Addr → Option Addr → Heap → (Option Addr → Option Addr → Option Addr → Heap → Option R) → Option R) (k : Nat) (n809 : Int) (n810 : Int) (n811 : Int) (t812 : Bool) (H : Heap) (K : Value → Heap → Option R) : evF (L_BitioNobody_Ct L_read L_write bitio_Writer_Len bitio_Writer_Bytes L_exampleHoldsq) (L_BitioNobody_Jt k L_BitioNobody_p0) L_BitioNobody_f [.agg ⟨[.int .i64 n809, .int .i64 n810, .int .i64 n811]⟩, .bool t812] H K = L_BitioNobody_b L_BitioNobody_p0 L_read L_write bitio_Writer_Len bitio_Writer_Bytes L_exampleHoldsq k n809 n810 n811 t812 H (fun t1297 H => K (.bool t1297) H) := by kernel_rfl
theorem L_BitioNobody_cs (R : Type) (k : Nat) : ∀ args H K r, L_BitioNobody_c R k args H K = some r → ∃ v H', Tri Try.prog 9 args H v H' ∧ K v H' = some r := by
  intro args H K r h
  unfold L_BitioNobody_c L_BitioNobody_ca at h
  split at h
  · exact evF_ok (C := L_BitioNobody_C R k) (an := An) (t := L_BitioNobody_at) (fn := Try.f9) (c := (Try.f9.body.getD .skip)) (ifn := L_BitioNobody_f) (L_BitioNobody_S R k) (L_BitioNobody_J R k) Try.func9 (by kernel_rfl) (by kernel_rfl) (And.intro True.intro (And.intro True.intro (And.intro True.intro (And.intro (L_BitioNobody_j0 k) (And.intro True.intro (And.intro True.intro (And.intro True.intro (And.intro True.intro True.intro)))))))) rfl (Eq.trans (L_BitioNobody_e (L_read k) (L_write k) bitio_Writer_Len (bitio_Writer_Bytes k) L_exampleHoldsq (L_BitioNobody_p0 k) k _ _ _ _ H K) h)
  · cases h
end Go.Proofs.Ytiapgcgpdndkiaa.Sh
