/- Lean functions that stand for Go's, over an explicit heap, and the proofs that they do (written by this claim's program shallow.py). -/
import Derived.Test.YtblpaolcgkjcgaaProg
import Derived.Test.YtblpaolcgkjcgaaFwL
set_option maxRecDepth 100000
set_option linter.unusedVariables false
set_option linter.unusedSimpArgs false
namespace Go.Proofs.Ytblpaolcgkjcgaa.Sh
open Go.Proofs.Ytblpaolcgkjcgaa.FW
def An : Ann := ⟨[], [3, 4, 5, 6, 8, 9, 10, 11, 14, 15, 16, 17, 18, 19, 22, 24, 25, 28, 29, 30, 33, 34, 35, 37, 39, 40, 41, 43, 44, 45, 47, 48, 49, 50, 57, 58, 59, 60, 61, 62, 63, 64, 65, 66, 67, 68, 69, 70, 71, 72, 73, 74, 75, 76, 77, 78, 79, 80, 81, 82, 83, 84], [12, 13, 20, 21, 23, 26, 31, 36, 46], [7, 27, 32, 38, 42, 51, 52, 53, 54, 55, 56]⟩

/-! ### cblk_sized: function 40 -/
def cblk_sized_b {R : Type} (k : Nat) (n5 : Int) (n6 : Int) (K : Bool → Option R) : Option R :=
bif decide (n5 ≥ 1) then (bif decide (n5 ≤ 64) then (bif decide (n6 ≥ 1) then (K (decide (n6 ≤ 64)))
 else (K false))
 else (K false))
 else (K false)

def cblk_sized {R : Type} (n5 : Int) (n6 : Int) (K : Bool → Option R) : Option R := cblk_sized_b 0 n5 n6 K

def cblk_sized_Ct {R : Type} : Tab R := fun _ _ _ _ => none
def cblk_sized_C (R : Type) (k : Nat) : Tab R := cblk_sized_Ct
theorem cblk_sized_S (R : Type) (k : Nat) : CSound Try.prog (cblk_sized_C R k) := csound_nil
def cblk_sized_Jt {R : Type} (k : Nat) : JTab R := fun _ _ _ _ => none
def cblk_sized_J (R : Type) (k : Nat) : JTab R := cblk_sized_Jt k
def cblk_sized_at : AT := (.seq (.reg [0, 1] []) (.seq (.reg [4] []) .leaf))
def cblk_sized_f : IFn := ⟨19, [.t 4], (.seq (.reg [⟨some 4, .mov (.c (Go.Value.bool false)), none⟩] [0, 1]) (.seq (.reg [⟨some 5, .mov (.t 0), none⟩,
 ⟨some 6, .cmp .geq (.t 5) (.c (Go.Value.int Go.IntKind.i64 1)), none⟩,
 ⟨some 7, .mov (.t 6), none⟩,
 ⟨some 8, .mov (.t 0), some (7, true)⟩,
 ⟨some 9, .cmp .leq (.t 8) (.c (Go.Value.int Go.IntKind.i64 64)), some (7, true)⟩,
 ⟨some 10, .pick (.t 7) (.t 9) (.c (Go.Value.bool false)), none⟩,
 ⟨some 11, .mov (.t 10), none⟩,
 ⟨some 12, .mov (.t 1), some (11, true)⟩,
 ⟨some 13, .cmp .geq (.t 12) (.c (Go.Value.int Go.IntKind.i64 1)), some (11, true)⟩,
 ⟨some 14, .pick (.t 11) (.t 13) (.c (Go.Value.bool false)), none⟩,
 ⟨some 15, .mov (.t 14), none⟩,
 ⟨some 16, .mov (.t 1), some (15, true)⟩,
 ⟨some 17, .cmp .leq (.t 16) (.c (Go.Value.int Go.IntKind.i64 64)), some (15, true)⟩,
 ⟨some 18, .pick (.t 15) (.t 17) (.c (Go.Value.bool false)), none⟩,
 ⟨some 4, .mov (.t 18), none⟩] [4]) .ret))⟩
def cblk_sized_ca {R : Type} (f : Int → Int → (Bool → Option R) → Option R) (args : List Value) (H : Heap) (K : Value → Heap → Option R) : Option R :=
  match args with
  | [.int .i64 n5, .int .i64 n6] => f n5 n6 (fun t1065 => K (.bool t1065) H)
  | _ => none
def cblk_sized_c (R : Type) (k : Nat) (args : List Value) (H : Heap) (K : Value → Heap → Option R) : Option R := cblk_sized_ca cblk_sized args H K
theorem cblk_sized_e {R : Type} (k : Nat) (n5 : Int) (n6 : Int) (H : Heap) (K : Value → Heap → Option R) : evF (cblk_sized_Ct) (cblk_sized_Jt k) cblk_sized_f [.int .i64 n5, .int .i64 n6] H K = cblk_sized_b k n5 n6 (fun t1065 => K (.bool t1065) H) := by kernel_rfl
theorem cblk_sized_cs (R : Type) (k : Nat) : ∀ args H K r, cblk_sized_c R k args H K = some r → ∃ v H', Tri Try.prog 40 args H v H' ∧ K v H' = some r := by
  intro args H K r h
  unfold cblk_sized_c cblk_sized_ca at h
  split at h
  · exact evF_ok (C := cblk_sized_C R 0) (an := An) (t := cblk_sized_at) (fn := Try.f40) (c := (Try.f40.body.getD .skip)) (ifn := cblk_sized_f) (cblk_sized_S R 0) (cblk_sized_J R 0) Try.func40 (by kernel_rfl) (by kernel_rfl) (And.intro True.intro (And.intro True.intro True.intro)) rfl (Eq.trans (cblk_sized_e 0 _ _ H K) h)
  · cases h
/-! ### cblk_Scan: function 12 -/
def cblk_Scan_l2_b {R : Type} (rec : Int → Int → Option Addr → Nat → Nat → Int → Int → Int → Heap → Option R) (KE4 : Int → Int → Option Addr → Nat → Nat → Int → Int → Heap → Option R) (k : Nat) (n23 : Int) (n24 : Int) (q25 : Option Addr) (l26 : Nat) (c27 : Nat) (n28 : Int) (n29 : Int) (n30 : Int) (H : Heap) : Option R :=
bif decide (n30 < (imn (IntKind.wrap .i64 (n28 + 4)) n24)) then (hal H [.int .i64 n29, .int .i64 n30] fun p31 H32 =>
happS 2 16 H32 q25 l26 c27 p31 1 fun q33 l34 c35 H36 =>
rec n23 n24 q33 l34 c35 n28 n29 (IntKind.wrap .i64 (n30 + 1)) H36)
 else (KE4 n23 n24 q25 l26 c27 n28 n29 H)
def cblk_Scan_l2 {R : Type} (k : Nat) (KE4 : Int → Int → Option Addr → Nat → Nat → Int → Int → Heap → Option R) : Nat → Int → Int → Option Addr → Nat → Nat → Int → Int → Int → Heap → Option R
  | 0, _, _, _, _, _, _, _, _, _ => none
  | n + 1, n23, n24, q25, l26, c27, n28, n29, n30, H => cblk_Scan_l2_b (cblk_Scan_l2 k KE4 n) KE4 k n23 n24 q25 l26 c27 n28 n29 n30 H

def cblk_Scan_l1_b {R : Type} (cblk_Scan_l2 : (Int → Int → Option Addr → Nat → Nat → Int → Int → Heap → Option R) → Nat → Int → Int → Option Addr → Nat → Nat → Int → Int → Int → Heap → Option R) (rec : Int → Int → Option Addr → Nat → Nat → Int → Int → Heap → Option R) (KE2 : Int → Int → Option Addr → Nat → Nat → Int → Heap → Option R) (k : Nat) (n16 : Int) (n17 : Int) (q18 : Option Addr) (l19 : Nat) (c20 : Nat) (n21 : Int) (n22 : Int) (H : Heap) : Option R :=
bif decide (n22 < n16) then (cblk_Scan_l2 (fun n44 n45 q46 l47 c48 n49 n50 H51 =>
rec n44 n45 q46 l47 c48 n49 (IntKind.wrap .i64 (n50 + 1)) H51) k n16 n17 q18 l19 c20 n21 n22 n21 H)
 else (KE2 n16 n17 q18 l19 c20 n21 H)
def cblk_Scan_l1 {R : Type} (k : Nat) (KE2 : Int → Int → Option Addr → Nat → Nat → Int → Heap → Option R) : Nat → Int → Int → Option Addr → Nat → Nat → Int → Int → Heap → Option R
  | 0, _, _, _, _, _, _, _, _ => none
  | n + 1, n16, n17, q18, l19, c20, n21, n22, H => cblk_Scan_l1_b (cblk_Scan_l2 k) (cblk_Scan_l1 k KE2 n) KE2 k n16 n17 q18 l19 c20 n21 n22 H

def cblk_Scan_l0_b {R : Type} (cblk_Scan_l1 : (Int → Int → Option Addr → Nat → Nat → Int → Heap → Option R) → Nat → Int → Int → Option Addr → Nat → Nat → Int → Int → Heap → Option R) (rec : Int → Int → Option Addr → Nat → Nat → Int → Heap → Option R) (KE0 : Option Addr → Nat → Nat → Heap → Option R) (k : Nat) (n10 : Int) (n11 : Int) (q12 : Option Addr) (l13 : Nat) (c14 : Nat) (n15 : Int) (H : Heap) : Option R :=
bif decide (n15 < n11) then (cblk_Scan_l1 (fun n58 n59 q60 l61 c62 n63 H64 =>
rec n58 n59 q60 l61 c62 (IntKind.wrap .i64 (n63 + 4)) H64) k n10 n11 q12 l13 c14 n15 0 H)
 else (KE0 q12 l13 c14 H)
def cblk_Scan_l0 {R : Type} (k : Nat) (KE0 : Option Addr → Nat → Nat → Heap → Option R) : Nat → Int → Int → Option Addr → Nat → Nat → Int → Heap → Option R
  | 0, _, _, _, _, _, _, _ => none
  | n + 1, n10, n11, q12, l13, c14, n15, H => cblk_Scan_l0_b (cblk_Scan_l1 k) (cblk_Scan_l0 k KE0 n) KE0 k n10 n11 q12 l13 c14 n15 H

def cblk_Scan_b {R : Type} (cblk_sized : Int → Int → (Bool → Option R) → Option R) (cblk_Scan_l0 : (Option Addr → Nat → Nat → Heap → Option R) → Nat → Int → Int → Option Addr → Nat → Nat → Int → Heap → Option R) (k : Nat) (n3 : Int) (n4 : Int) (H : Heap) (K : Option Addr → Nat → Nat → Heap → Option R) : Option R :=
cblk_sized n3 n4 fun t5 =>
bif (!t5) then (K none 0 0 H)
 else (hmk [.int .i64 0, .int .i64 0] 16 H 0 (IntKind.wrap .i64 (n3 * n4)) fun q6 l7 c8 H9 =>
cblk_Scan_l0 (fun q68 l69 c70 H71 =>
K q68 l69 c70 H71) k n3 n4 q6 l7 c8 0 H9)

def cblk_Scan {R : Type} (k : Nat) (n3 : Int) (n4 : Int) (H : Heap) (K : Option Addr → Nat → Nat → Heap → Option R) : Option R := cblk_Scan_b cblk_sized (cblk_Scan_l0 k) k n3 n4 H K

def cblk_Scan_Ct {R : Type} (cblk_sized : Int → Int → (Bool → Option R) → Option R) : Tab R := tcons 40 (cblk_sized_ca cblk_sized) <| fun _ _ _ _ => none
def cblk_Scan_C (R : Type) (k : Nat) : Tab R := cblk_Scan_Ct cblk_sized
theorem cblk_Scan_S (R : Type) (k : Nat) : CSound Try.prog (cblk_Scan_C R k) := csound_cons (cblk_sized_cs R k) <| csound_nil
def cblk_Scan_aa0 {R : Type} (f : (Option Addr → Nat → Nat → Heap → Option R) → Nat → Int → Int → Option Addr → Nat → Nat → Int → Heap → Option R) (n : Nat) (vals : List Value) (H : Heap) (K : Xit → Env → Heap → Option R) : Option R :=
  match vals with
  | [.int .i64 n10, .int .i64 n11, .slice q12 l13 c14, .int .i64 n15] => f (fun q1066 l1067 c1068 H => K (.exit 0) [(5, .slice q1066 l1067 c1068)] H) n n10 n11 q12 l13 c14 n15 H
  | _ => none
def cblk_Scan_a0 (R : Type) (k n : Nat) (vals : List Value) (H : Heap) (K : Xit → Env → Heap → Option R) : Option R := cblk_Scan_aa0 (cblk_Scan_l0 k) n vals H K
def cblk_Scan_aa1 {R : Type} (f : (Int → Int → Option Addr → Nat → Nat → Int → Heap → Option R) → Nat → Int → Int → Option Addr → Nat → Nat → Int → Int → Heap → Option R) (n : Nat) (vals : List Value) (H : Heap) (K : Xit → Env → Heap → Option R) : Option R :=
  match vals with
  | [.int .i64 n16, .int .i64 n17, .slice q18 l19 c20, .int .i64 n21, .int .i64 n22] => f (fun n1069 n1070 q1071 l1072 c1073 n1074 H => K (.exit 2) [(0, .int .i64 n1069), (1, .int .i64 n1070), (5, .slice q1071 l1072 c1073), (6, .int .i64 n1074)] H) n n16 n17 q18 l19 c20 n21 n22 H
  | _ => none
def cblk_Scan_a1 (R : Type) (k n : Nat) (vals : List Value) (H : Heap) (K : Xit → Env → Heap → Option R) : Option R := cblk_Scan_aa1 (cblk_Scan_l1 k) n vals H K
def cblk_Scan_aa2 {R : Type} (f : (Int → Int → Option Addr → Nat → Nat → Int → Int → Heap → Option R) → Nat → Int → Int → Option Addr → Nat → Nat → Int → Int → Int → Heap → Option R) (n : Nat) (vals : List Value) (H : Heap) (K : Xit → Env → Heap → Option R) : Option R :=
  match vals with
  | [.int .i64 n23, .int .i64 n24, .slice q25 l26 c27, .int .i64 n28, .int .i64 n29, .int .i64 n30] => f (fun n1075 n1076 q1077 l1078 c1079 n1080 n1081 H => K (.exit 4) [(0, .int .i64 n1075), (1, .int .i64 n1076), (5, .slice q1077 l1078 c1079), (6, .int .i64 n1080), (7, .int .i64 n1081)] H) n n23 n24 q25 l26 c27 n28 n29 n30 H
  | _ => none
def cblk_Scan_a2 (R : Type) (k n : Nat) (vals : List Value) (H : Heap) (K : Xit → Env → Heap → Option R) : Option R := cblk_Scan_aa2 (cblk_Scan_l2 k) n vals H K
def cblk_Scan_Jt {R : Type} (k : Nat) (cblk_Scan_l0 : (Option Addr → Nat → Nat → Heap → Option R) → Nat → Int → Int → Option Addr → Nat → Nat → Int → Heap → Option R) (cblk_Scan_l1 : (Int → Int → Option Addr → Nat → Nat → Int → Heap → Option R) → Nat → Int → Int → Option Addr → Nat → Nat → Int → Int → Heap → Option R) (cblk_Scan_l2 : (Int → Int → Option Addr → Nat → Nat → Int → Int → Heap → Option R) → Nat → Int → Int → Option Addr → Nat → Nat → Int → Int → Int → Heap → Option R) : JTab R := tcons 0 (cblk_Scan_aa0 cblk_Scan_l0 k) <| tcons 1 (cblk_Scan_aa1 cblk_Scan_l1 k) <| tcons 2 (cblk_Scan_aa2 cblk_Scan_l2 k) <| fun _ _ _ _ => none
def cblk_Scan_J (R : Type) (k : Nat) : JTab R := cblk_Scan_Jt k (cblk_Scan_l0 k) (cblk_Scan_l1 k) (cblk_Scan_l2 k)
def cblk_Scan_at : AT := (.seq (.reg [0, 1] []) (.seq (.seq (.reg [0, 1, 12] []) (.cond (.seq (.reg [4] []) .leaf) .leaf)) (.seq (.reg [0, 1, 5] []) (.seq (.seq (.reg [0, 1, 5, 6] []) (.node (.opq 0 [0, 1, 5, 6] ⟨[], [(0, [5])], []⟩ (.node (.seq (.seq (.reg [0, 1, 5, 6, 19] []) (.cond .leaf .leaf)) (.seq (.node (.seq (.reg [0, 1, 5, 6, 7] []) (.node (.opq 1 [0, 1, 5, 6, 7] ⟨[], [(2, [0, 1, 5, 6])], []⟩ (.node (.seq (.seq (.reg [0, 1, 5, 6, 7, 24] []) (.cond .leaf .leaf)) (.seq (.node (.seq (.reg [0, 1, 5, 6, 7, 8] []) (.node (.opq 2 [0, 1, 5, 6, 7, 8] ⟨[], [(4, [0, 1, 5, 6, 7])], []⟩ (.node (.seq (.seq (.reg [0, 1, 5, 6, 7, 8, 33] []) (.cond .leaf .leaf)) (.seq (.node (.reg [0, 1, 5, 6, 7, 8] [])) (.reg [0, 1, 5, 6, 7, 8] [])))))))) (.reg [0, 1, 5, 6, 7] [])))))))) (.reg [0, 1, 5, 6] []))))))) (.seq (.reg [4] []) .leaf)))))
def cblk_Scan_i2 : IC := (.seq (.seq (.reg [⟨some 28, .mov (.t 8), none⟩,
 ⟨some 29, .mov (.t 6), none⟩,
 ⟨some 30, .bin .add .i64 (.t 29) (.c (Go.Value.int Go.IntKind.i64 4)), none⟩,
 ⟨some 31, .mov (.t 1), none⟩,
 ⟨some 32, .mn (.t 30) (.t 31), none⟩,
 ⟨some 33, .cmp .lss (.t 28) (.t 32), none⟩] [0, 1, 5, 6, 7, 8, 33]) (.cond (.t 33) .skip (.exit 4))) (.seq (.block 5 (.reg [⟨some 36, .mov (.t 5), none⟩,
 ⟨some 37, .mov (.t 7), none⟩,
 ⟨some 38, .mov (.t 8), none⟩,
 ⟨some 39, .bld [.int .i64 0, .int .i64 0] [(0, 1, (.t 37)), (1, 1, (.t 38))], none⟩,
 ⟨some 40, .bls 1 [.int .i64 0, .int .i64 0] [(0, 2, (.t 39))], none⟩,
 ⟨some 41, .app [.int .i64 0, .int .i64 0] 16 (.t 36) (.t 40), none⟩,
 ⟨some 5, .mov (.t 41), none⟩] [0, 1, 5, 6, 7, 8])) (.reg [⟨some 34, .mov (.t 8), none⟩,
 ⟨some 35, .bin .add .i64 (.t 34) (.c (Go.Value.int Go.IntKind.i64 1)), none⟩,
 ⟨some 8, .mov (.t 35), none⟩] [0, 1, 5, 6, 7, 8])))
def cblk_Scan_i1 : IC := (.seq (.seq (.reg [⟨some 22, .mov (.t 7), none⟩,
 ⟨some 23, .mov (.t 0), none⟩,
 ⟨some 24, .cmp .lss (.t 22) (.t 23), none⟩] [0, 1, 5, 6, 7, 24]) (.cond (.t 24) .skip (.exit 2))) (.seq (.block 3 (.seq (.reg [⟨some 27, .mov (.t 6), none⟩,
 ⟨some 8, .mov (.t 27), none⟩] [0, 1, 5, 6, 7, 8]) (.block 4 (.opq 2 [0, 1, 5, 6, 7, 8] (.loop cblk_Scan_i2))))) (.reg [⟨some 25, .mov (.t 7), none⟩,
 ⟨some 26, .bin .add .i64 (.t 25) (.c (Go.Value.int Go.IntKind.i64 1)), none⟩,
 ⟨some 7, .mov (.t 26), none⟩] [0, 1, 5, 6, 7])))
def cblk_Scan_i0 : IC := (.seq (.seq (.reg [⟨some 17, .mov (.t 6), none⟩,
 ⟨some 18, .mov (.t 1), none⟩,
 ⟨some 19, .cmp .lss (.t 17) (.t 18), none⟩] [0, 1, 5, 6, 19]) (.cond (.t 19) .skip (.exit 0))) (.seq (.block 1 (.seq (.reg [⟨some 7, .mov (.c (Go.Value.int Go.IntKind.i64 0)), none⟩] [0, 1, 5, 6, 7]) (.block 2 (.opq 1 [0, 1, 5, 6, 7] (.loop cblk_Scan_i1))))) (.reg [⟨some 20, .mov (.t 6), none⟩,
 ⟨some 21, .bin .add .i64 (.t 20) (.c (Go.Value.int Go.IntKind.i64 4)), none⟩,
 ⟨some 6, .mov (.t 21), none⟩] [0, 1, 5, 6])))
def cblk_Scan_f : IFn := ⟨43, [.t 4], (.seq (.reg [⟨some 4, .mov (.c (Go.Value.slice none 0 0)), none⟩] [0, 1]) (.seq (.seq (.reg [⟨some 9, .mov (.t 0), none⟩,
 ⟨some 10, .mov (.t 1), none⟩,
 ⟨some 11, .call 40 [(.t 9), (.t 10)] (.one (.sc .bool)), none⟩,
 ⟨some 12, .lnot (.t 11), none⟩] [0, 1, 12]) (.cond (.t 12) (.seq (.reg [⟨some 4, .mov (.c (Go.Value.slice none 0 0)), none⟩] [4]) .ret) .skip)) (.seq (.reg [⟨some 13, .mov (.t 0), none⟩,
 ⟨some 14, .mov (.t 1), none⟩,
 ⟨some 15, .bin .mul .i64 (.t 13) (.t 14), none⟩,
 ⟨some 16, .mks [.int .i64 0, .int .i64 0] 16 (.c (Go.Value.int Go.IntKind.i64 0)) (.t 15), none⟩,
 ⟨some 5, .mov (.t 16), none⟩] [0, 1, 5]) (.seq (.seq (.reg [⟨some 6, .mov (.c (Go.Value.int Go.IntKind.i64 0)), none⟩] [0, 1, 5, 6]) (.block 0 (.opq 0 [0, 1, 5, 6] (.loop cblk_Scan_i0)))) (.seq (.reg [⟨some 42, .mov (.t 5), none⟩,
 ⟨some 4, .mov (.t 42), none⟩] [4]) .ret)))))⟩
theorem cblk_Scan_e2 {R : Type} (cblk_sized : Int → Int → (Bool → Option R) → Option R) (cblk_Scan_l0 : (Option Addr → Nat → Nat → Heap → Option R) → Nat → Int → Int → Option Addr → Nat → Nat → Int → Heap → Option R) (cblk_Scan_l1 : (Int → Int → Option Addr → Nat → Nat → Int → Heap → Option R) → Nat → Int → Int → Option Addr → Nat → Nat → Int → Int → Heap → Option R) (cblk_Scan_l2 : (Int → Int → Option Addr → Nat → Nat → Int → Int → Heap → Option R) → Nat → Int → Int → Option Addr → Nat → Nat → Int → Int → Int → Heap → Option R) (k n : Nat) (n23 : Int) (n24 : Int) (q25 : Option Addr) (l26 : Nat) (c27 : Nat) (n28 : Int) (n29 : Int) (n30 : Int) (H : Heap) (K : Xit → Env → Heap → Option R) : evJ (cblk_Scan_Ct cblk_sized) (cblk_Scan_Jt k cblk_Scan_l0 cblk_Scan_l1 cblk_Scan_l2) cblk_Scan_i2 (List.zip [0, 1, 5, 6, 7, 8] [.int .i64 n23, .int .i64 n24, .slice q25 l26 c27, .int .i64 n28, .int .i64 n29, .int .i64 n30]) H (fun x e' H' => match x with | .normal => cblk_Scan_aa2 cblk_Scan_l2 n ((clean e' [0, 1, 5, 6, 7, 8]).map (·.2)) H' K | x => K x (clean e' ((⟨[], [(4, [0, 1, 5, 6, 7])], []⟩ : Out).of x)) H') = cblk_Scan_l2_b (cblk_Scan_l2 (fun n1075 n1076 q1077 l1078 c1079 n1080 n1081 H => K (.exit 4) [(0, .int .i64 n1075), (1, .int .i64 n1076), (5, .slice q1077 l1078 c1079), (6, .int .i64 n1080), (7, .int .i64 n1081)] H) n) (fun n1075 n1076 q1077 l1078 c1079 n1080 n1081 H => K (.exit 4) [(0, .int .i64 n1075), (1, .int .i64 n1076), (5, .slice q1077 l1078 c1079), (6, .int .i64 n1080), (7, .int .i64 n1081)] H) k n23 n24 q25 l26 c27 n28 n29 n30 H := by kernel_rfl
theorem cblk_Scan_j2 {R : Type} (k : Nat) : JS Try.prog 43 (cblk_Scan_a2 R k k) [0, 1, 5, 6, 7, 8] ⟨[], [(4, [0, 1, 5, 6, 7])], []⟩ (.loop (sel [1, 1, 1, 0, 1, 0, 0, 1, 0, 0, 1, 0, 0, 1, 0, 0, 1, 0, 0] (Try.f12.body.getD .skip))) :=
  loop_ok (nt := 43) (c := (sel [1, 1, 1, 0, 1, 0, 0, 1, 0, 0, 1, 0, 0, 1, 0, 0, 1, 0, 0] (Try.f12.body.getD .skip))) (C := cblk_Scan_C R k) (an := An) (t := (.seq (.seq (.reg [0, 1, 5, 6, 7, 8, 33] []) (.cond .leaf .leaf)) (.seq (.node (.reg [0, 1, 5, 6, 7, 8] [])) (.reg [0, 1, 5, 6, 7, 8] [])))) (ic := cblk_Scan_i2) (cblk_Scan_S R k) (cblk_Scan_J R k) (by kernel_rfl) (And.intro (And.intro True.intro (And.intro True.intro True.intro)) (And.intro True.intro True.intro)) (cblk_Scan_a2 R k) (fun vals H K => by unfold cblk_Scan_a2 cblk_Scan_aa2; split <;> rfl)
    (fun n vals H K r h => by
      unfold cblk_Scan_a2 cblk_Scan_aa2 at h
      split at h <;> first | (cases h; done) | exact Eq.trans (cblk_Scan_e2 cblk_sized (cblk_Scan_l0 k) (cblk_Scan_l1 k) (cblk_Scan_l2 k) k n _ _ _ _ _ _ _ _ H K) h) k
theorem cblk_Scan_e1 {R : Type} (cblk_sized : Int → Int → (Bool → Option R) → Option R) (cblk_Scan_l0 : (Option Addr → Nat → Nat → Heap → Option R) → Nat → Int → Int → Option Addr → Nat → Nat → Int → Heap → Option R) (cblk_Scan_l1 : (Int → Int → Option Addr → Nat → Nat → Int → Heap → Option R) → Nat → Int → Int → Option Addr → Nat → Nat → Int → Int → Heap → Option R) (cblk_Scan_l2 : (Int → Int → Option Addr → Nat → Nat → Int → Int → Heap → Option R) → Nat → Int → Int → Option Addr → Nat → Nat → Int → Int → Int → Heap → Option R) (k n : Nat) (n16 : Int) (n17 : Int) (q18 : Option Addr) (l19 : Nat) (c20 : Nat) (n21 : Int) (n22 : Int) (H : Heap) (K : Xit → Env → Heap → Option R) : evJ (cblk_Scan_Ct cblk_sized) (cblk_Scan_Jt k cblk_Scan_l0 cblk_Scan_l1 cblk_Scan_l2) cblk_Scan_i1 (List.zip [0, 1, 5, 6, 7] [.int .i64 n16, .int .i64 n17, .slice q18 l19 c20, .int .i64 n21, .int .i64 n22]) H (fun x e' H' => match x with | .normal => cblk_Scan_aa1 cblk_Scan_l1 n ((clean e' [0, 1, 5, 6, 7]).map (·.2)) H' K | x => K x (clean e' ((⟨[], [(2, [0, 1, 5, 6])], []⟩ : Out).of x)) H') = cblk_Scan_l1_b cblk_Scan_l2 (cblk_Scan_l1 (fun n1069 n1070 q1071 l1072 c1073 n1074 H => K (.exit 2) [(0, .int .i64 n1069), (1, .int .i64 n1070), (5, .slice q1071 l1072 c1073), (6, .int .i64 n1074)] H) n) (fun n1069 n1070 q1071 l1072 c1073 n1074 H => K (.exit 2) [(0, .int .i64 n1069), (1, .int .i64 n1070), (5, .slice q1071 l1072 c1073), (6, .int .i64 n1074)] H) k n16 n17 q18 l19 c20 n21 n22 H := by kernel_rfl
theorem cblk_Scan_j1 {R : Type} (k : Nat) : JS Try.prog 43 (cblk_Scan_a1 R k k) [0, 1, 5, 6, 7] ⟨[], [(2, [0, 1, 5, 6])], []⟩ (.loop (sel [1, 1, 1, 0, 1, 0, 0, 1, 0, 0, 1, 0, 0] (Try.f12.body.getD .skip))) :=
  loop_ok (nt := 43) (c := (sel [1, 1, 1, 0, 1, 0, 0, 1, 0, 0, 1, 0, 0] (Try.f12.body.getD .skip))) (C := cblk_Scan_C R k) (an := An) (t := (.seq (.seq (.reg [0, 1, 5, 6, 7, 24] []) (.cond .leaf .leaf)) (.seq (.node (.seq (.reg [0, 1, 5, 6, 7, 8] []) (.node (.opq 2 [0, 1, 5, 6, 7, 8] ⟨[], [(4, [0, 1, 5, 6, 7])], []⟩ (.node (.seq (.seq (.reg [0, 1, 5, 6, 7, 8, 33] []) (.cond .leaf .leaf)) (.seq (.node (.reg [0, 1, 5, 6, 7, 8] [])) (.reg [0, 1, 5, 6, 7, 8] [])))))))) (.reg [0, 1, 5, 6, 7] [])))) (ic := cblk_Scan_i1) (cblk_Scan_S R k) (cblk_Scan_J R k) (by kernel_rfl) (And.intro (And.intro True.intro (And.intro True.intro True.intro)) (And.intro (And.intro True.intro (cblk_Scan_j2 k)) True.intro)) (cblk_Scan_a1 R k) (fun vals H K => by unfold cblk_Scan_a1 cblk_Scan_aa1; split <;> rfl)
    (fun n vals H K r h => by
      unfold cblk_Scan_a1 cblk_Scan_aa1 at h
      split at h <;> first | (cases h; done) | exact Eq.trans (cblk_Scan_e1 cblk_sized (cblk_Scan_l0 k) (cblk_Scan_l1 k) (cblk_Scan_l2 k) k n _ _ _ _ _ _ _ H K) h) k
theorem cblk_Scan_e0 {R : Type} (cblk_sized : Int → Int → (Bool → Option R) → Option R) (cblk_Scan_l0 : (Option Addr → Nat → Nat → Heap → Option R) → Nat → Int → Int → Option Addr → Nat → Nat → Int → Heap → Option R) (cblk_Scan_l1 : (Int → Int → Option Addr → Nat → Nat → Int → Heap → Option R) → Nat → Int → Int → Option Addr → Nat → Nat → Int → Int → Heap → Option R) (cblk_Scan_l2 : (Int → Int → Option Addr → Nat → Nat → Int → Int → Heap → Option R) → Nat → Int → Int → Option Addr → Nat → Nat → Int → Int → Int → Heap → Option R) (k n : Nat) (n10 : Int) (n11 : Int) (q12 : Option Addr) (l13 : Nat) (c14 : Nat) (n15 : Int) (H : Heap) (K : Xit → Env → Heap → Option R) : evJ (cblk_Scan_Ct cblk_sized) (cblk_Scan_Jt k cblk_Scan_l0 cblk_Scan_l1 cblk_Scan_l2) cblk_Scan_i0 (List.zip [0, 1, 5, 6] [.int .i64 n10, .int .i64 n11, .slice q12 l13 c14, .int .i64 n15]) H (fun x e' H' => match x with | .normal => cblk_Scan_aa0 cblk_Scan_l0 n ((clean e' [0, 1, 5, 6]).map (·.2)) H' K | x => K x (clean e' ((⟨[], [(0, [5])], []⟩ : Out).of x)) H') = cblk_Scan_l0_b cblk_Scan_l1 (cblk_Scan_l0 (fun q1066 l1067 c1068 H => K (.exit 0) [(5, .slice q1066 l1067 c1068)] H) n) (fun q1066 l1067 c1068 H => K (.exit 0) [(5, .slice q1066 l1067 c1068)] H) k n10 n11 q12 l13 c14 n15 H := by kernel_rfl
theorem cblk_Scan_j0 {R : Type} (k : Nat) : JS Try.prog 43 (cblk_Scan_a0 R k k) [0, 1, 5, 6] ⟨[], [(0, [5])], []⟩ (.loop (sel [1, 1, 1, 0, 1, 0, 0] (Try.f12.body.getD .skip))) :=
  loop_ok (nt := 43) (c := (sel [1, 1, 1, 0, 1, 0, 0] (Try.f12.body.getD .skip))) (C := cblk_Scan_C R k) (an := An) (t := (.seq (.seq (.reg [0, 1, 5, 6, 19] []) (.cond .leaf .leaf)) (.seq (.node (.seq (.reg [0, 1, 5, 6, 7] []) (.node (.opq 1 [0, 1, 5, 6, 7] ⟨[], [(2, [0, 1, 5, 6])], []⟩ (.node (.seq (.seq (.reg [0, 1, 5, 6, 7, 24] []) (.cond .leaf .leaf)) (.seq (.node (.seq (.reg [0, 1, 5, 6, 7, 8] []) (.node (.opq 2 [0, 1, 5, 6, 7, 8] ⟨[], [(4, [0, 1, 5, 6, 7])], []⟩ (.node (.seq (.seq (.reg [0, 1, 5, 6, 7, 8, 33] []) (.cond .leaf .leaf)) (.seq (.node (.reg [0, 1, 5, 6, 7, 8] [])) (.reg [0, 1, 5, 6, 7, 8] [])))))))) (.reg [0, 1, 5, 6, 7] [])))))))) (.reg [0, 1, 5, 6] [])))) (ic := cblk_Scan_i0) (cblk_Scan_S R k) (cblk_Scan_J R k) (by kernel_rfl) (And.intro (And.intro True.intro (And.intro True.intro True.intro)) (And.intro (And.intro True.intro (cblk_Scan_j1 k)) True.intro)) (cblk_Scan_a0 R k) (fun vals H K => by unfold cblk_Scan_a0 cblk_Scan_aa0; split <;> rfl)
    (fun n vals H K r h => by
      unfold cblk_Scan_a0 cblk_Scan_aa0 at h
      split at h <;> first | (cases h; done) | exact Eq.trans (cblk_Scan_e0 cblk_sized (cblk_Scan_l0 k) (cblk_Scan_l1 k) (cblk_Scan_l2 k) k n _ _ _ _ _ _ H K) h) k
def cblk_Scan_ca {R : Type} (f : Int → Int → Heap → (Option Addr → Nat → Nat → Heap → Option R) → Option R) (args : List Value) (H : Heap) (K : Value → Heap → Option R) : Option R :=
  match args with
  | [.int .i64 n3, .int .i64 n4] => f n3 n4 H (fun q1082 l1083 c1084 H => K (.slice q1082 l1083 c1084) H)
  | _ => none
def cblk_Scan_c (R : Type) (k : Nat) (args : List Value) (H : Heap) (K : Value → Heap → Option R) : Option R := cblk_Scan_ca (cblk_Scan k) args H K
theorem cblk_Scan_e {R : Type} (cblk_sized : Int → Int → (Bool → Option R) → Option R) (cblk_Scan_l0 : (Option Addr → Nat → Nat → Heap → Option R) → Nat → Int → Int → Option Addr → Nat → Nat → Int → Heap → Option R) (cblk_Scan_l1 : (Int → Int → Option Addr → Nat → Nat → Int → Heap → Option R) → Nat → Int → Int → Option Addr → Nat → Nat → Int → Int → Heap → Option R) (cblk_Scan_l2 : (Int → Int → Option Addr → Nat → Nat → Int → Int → Heap → Option R) → Nat → Int → Int → Option Addr → Nat → Nat → Int → Int → Int → Heap → Option R) (k : Nat) (n3 : Int) (n4 : Int) (H : Heap) (K : Value → Heap → Option R) : evF (cblk_Scan_Ct cblk_sized) (cblk_Scan_Jt k cblk_Scan_l0 cblk_Scan_l1 cblk_Scan_l2) cblk_Scan_f [.int .i64 n3, .int .i64 n4] H K = cblk_Scan_b cblk_sized cblk_Scan_l0 k n3 n4 H (fun q1082 l1083 c1084 H => K (.slice q1082 l1083 c1084) H) := by kernel_rfl
theorem cblk_Scan_cs (R : Type) (k : Nat) : ∀ args H K r, cblk_Scan_c R k args H K = some r → ∃ v H', Tri Try.prog 12 args H v H' ∧ K v H' = some r := by
  intro args H K r h
  unfold cblk_Scan_c cblk_Scan_ca at h
  split at h
  · exact evF_ok (C := cblk_Scan_C R k) (an := An) (t := cblk_Scan_at) (fn := Try.f12) (c := (Try.f12.body.getD .skip)) (ifn := cblk_Scan_f) (cblk_Scan_S R k) (cblk_Scan_J R k) Try.func12 (by kernel_rfl) (by kernel_rfl) (And.intro True.intro (And.intro (And.intro True.intro (And.intro (And.intro True.intro True.intro) True.intro)) (And.intro True.intro (And.intro (And.intro True.intro (cblk_Scan_j0 k)) (And.intro True.intro True.intro))))) rfl (Eq.trans (cblk_Scan_e cblk_sized (cblk_Scan_l0 k) (cblk_Scan_l1 k) (cblk_Scan_l2 k) k _ _ H K) h)
  · cases h
/-! ### cblk_New: function 31 -/
def cblk_New_b {R : Type} (cblk_sized : Int → Int → (Bool → Option R) → Option R) (k : Nat) (n174 : Int) (n175 : Int) (H : Heap) (K : Option Addr → Int → Heap → Option R) : Option R :=
cblk_sized n174 n175 fun t176 =>
bif (!t176) then (K none 2 H)
 else (hmk [.int .i64 0, .bool false, .bool false, .bool false] 16 H (IntKind.wrap .i64 (n174 * n175)) (IntKind.wrap .i64 (n174 * n175)) fun q177 l178 c179 H180 =>
hal H180 [.int .i64 n174, .int .i64 n175, .slice q177 l178 c179] fun p181 H182 =>
K p181 0 H182)

def cblk_New {R : Type} (n174 : Int) (n175 : Int) (H : Heap) (K : Option Addr → Int → Heap → Option R) : Option R := cblk_New_b cblk_sized 0 n174 n175 H K

def cblk_New_Ct {R : Type} (cblk_sized : Int → Int → (Bool → Option R) → Option R) : Tab R := tcons 40 (cblk_sized_ca cblk_sized) <| fun _ _ _ _ => none
def cblk_New_C (R : Type) (k : Nat) : Tab R := cblk_New_Ct cblk_sized
theorem cblk_New_S (R : Type) (k : Nat) : CSound Try.prog (cblk_New_C R k) := csound_cons (cblk_sized_cs R k) <| csound_nil
def cblk_New_Jt {R : Type} (k : Nat) : JTab R := fun _ _ _ _ => none
def cblk_New_J (R : Type) (k : Nat) : JTab R := cblk_New_Jt k
def cblk_New_at : AT := (.seq (.reg [0, 1] []) (.seq (.seq (.reg [0, 1, 9] []) (.cond (.seq (.reg [4, 5] []) .leaf) .leaf)) (.seq (.reg [4, 5] []) .leaf)))
def cblk_New_f : IFn := ⟨18, [.t 4, .t 5], (.seq (.reg [⟨some 4, .mov (.c (Go.Value.pointer none)), none⟩,
 ⟨some 5, .mov (.c (Go.Value.int Go.IntKind.i64 0)), none⟩] [0, 1]) (.seq (.seq (.reg [⟨some 6, .mov (.t 0), none⟩,
 ⟨some 7, .mov (.t 1), none⟩,
 ⟨some 8, .call 40 [(.t 6), (.t 7)] (.one (.sc .bool)), none⟩,
 ⟨some 9, .lnot (.t 8), none⟩] [0, 1, 9]) (.cond (.t 9) (.seq (.reg [⟨some 4, .mov (.c (Go.Value.pointer none)), none⟩,
 ⟨some 5, .mov (.c (Go.Value.int Go.IntKind.i64 2)), none⟩] [4, 5]) .ret) .skip)) (.seq (.reg [⟨some 10, .mov (.t 0), none⟩,
 ⟨some 11, .mov (.t 1), none⟩,
 ⟨some 12, .mov (.t 0), none⟩,
 ⟨some 13, .mov (.t 1), none⟩,
 ⟨some 14, .bin .mul .i64 (.t 12) (.t 13), none⟩,
 ⟨some 15, .mks [.int .i64 0, .bool false, .bool false, .bool false] 16 (.t 14) (.t 14), none⟩,
 ⟨some 16, .bld [.int .i64 0, .int .i64 0, .slice none 0 0] [(0, 1, (.t 10)), (1, 1, (.t 11)), (2, 1, (.t 15))], none⟩,
 ⟨some 17, .box (.t 16), none⟩,
 ⟨some 4, .mov (.t 17), none⟩,
 ⟨some 5, .mov (.c (Go.Value.int Go.IntKind.i64 0)), none⟩] [4, 5]) .ret)))⟩
def cblk_New_ca {R : Type} (f : Int → Int → Heap → (Option Addr → Int → Heap → Option R) → Option R) (args : List Value) (H : Heap) (K : Value → Heap → Option R) : Option R :=
  match args with
  | [.int .i64 n174, .int .i64 n175] => f n174 n175 H (fun p1085 n1086 H => K (.tuple ⟨[.pointer p1085, .int .i64 n1086]⟩) H)
  | _ => none
def cblk_New_c (R : Type) (k : Nat) (args : List Value) (H : Heap) (K : Value → Heap → Option R) : Option R := cblk_New_ca cblk_New args H K
theorem cblk_New_e {R : Type} (cblk_sized : Int → Int → (Bool → Option R) → Option R) (k : Nat) (n174 : Int) (n175 : Int) (H : Heap) (K : Value → Heap → Option R) : evF (cblk_New_Ct cblk_sized) (cblk_New_Jt k) cblk_New_f [.int .i64 n174, .int .i64 n175] H K = cblk_New_b cblk_sized k n174 n175 H (fun p1085 n1086 H => K (.tuple ⟨[.pointer p1085, .int .i64 n1086]⟩) H) := by kernel_rfl
theorem cblk_New_cs (R : Type) (k : Nat) : ∀ args H K r, cblk_New_c R k args H K = some r → ∃ v H', Tri Try.prog 31 args H v H' ∧ K v H' = some r := by
  intro args H K r h
  unfold cblk_New_c cblk_New_ca at h
  split at h
  · exact evF_ok (C := cblk_New_C R 0) (an := An) (t := cblk_New_at) (fn := Try.f31) (c := (Try.f31.body.getD .skip)) (ifn := cblk_New_f) (cblk_New_S R 0) (cblk_New_J R 0) Try.func31 (by kernel_rfl) (by kernel_rfl) (And.intro True.intro (And.intro (And.intro True.intro (And.intro (And.intro True.intro True.intro) True.intro)) (And.intro True.intro True.intro))) rfl (Eq.trans (cblk_New_e cblk_sized 0 _ _ H K) h)
  · cases h
/-! ### cblk_Block_at: function 46 -/
def cblk_Block_at_p0_b {R : Type} (k : Nat) (p197 : Option Addr) (n198 : Int) (n199 : Int) (H : Heap) (KN : Option Addr → Int → Int → Option R) (KR : Option Addr → Option R) : Option R :=
bif p197.isNone then (KR none)
 else (bif decide (n198 < 0) then (KR none)
 else (hnil p197 fun p200 =>
hfad 0 p200 fun p201 =>
ldI .i64 H p201 fun n202 =>
bif decide (n198 ≥ n202) then (KR none)
 else (bif decide (n199 < 0) then (KR none)
 else (hnil p197 fun p203 =>
hfad 1 p203 fun p204 =>
ldI .i64 H p204 fun n205 =>
bif decide (n199 ≥ n205) then (KR none)
 else (KN p197 n198 n199)))))
def cblk_Block_at_p0 {R : Type} (k : Nat) (p197 : Option Addr) (n198 : Int) (n199 : Int) (H : Heap) (KN : Option Addr → Int → Int → Option R) (KR : Option Addr → Option R) : Option R := cblk_Block_at_p0_b k p197 n198 n199 H KN KR

def cblk_Block_at_b {R : Type} (cblk_Block_at_p0 : Option Addr → Int → Int → Heap → (Option Addr → Int → Int → Option R) → (Option Addr → Option R) → Option R) (k : Nat) (p194 : Option Addr) (n195 : Int) (n196 : Int) (H : Heap) (K : Option Addr → Option R) : Option R :=
cblk_Block_at_p0 p194 n195 n196 H (fun p210 n211 n212 =>
hnil p210 fun p213 =>
hfad 2 p213 fun p214 =>
ldL H p214 fun q215 l216 c217 =>
hnil p210 fun p218 =>
hfad 0 p218 fun p219 =>
ldI .i64 H p219 fun n220 =>
hidx q215 l216 (IntKind.wrap .i64 ((IntKind.wrap .i64 (n212 * n220)) + n211)) 4 fun p221 =>
K p221) (fun p222 =>
K p222)

def cblk_Block_at {R : Type} (k : Nat) (p194 : Option Addr) (n195 : Int) (n196 : Int) (H : Heap) (K : Option Addr → Option R) : Option R := cblk_Block_at_b (cblk_Block_at_p0 k) k p194 n195 n196 H K

def cblk_Block_at_Ct {R : Type} : Tab R := fun _ _ _ _ => none
def cblk_Block_at_C (R : Type) (k : Nat) : Tab R := cblk_Block_at_Ct
theorem cblk_Block_at_S (R : Type) (k : Nat) : CSound Try.prog (cblk_Block_at_C R k) := csound_nil
def cblk_Block_at_aa0 {R : Type} (f : Option Addr → Int → Int → Heap → (Option Addr → Int → Int → Option R) → (Option Addr → Option R) → Option R) (n : Nat) (vals : List Value) (H : Heap) (K : Xit → Env → Heap → Option R) : Option R :=
  match vals with
  | [.pointer p197, .int .i64 n198, .int .i64 n199] => f p197 n198 n199 H (fun p1087 n1088 n1089 => K .normal [(0, .pointer p1087), (1, .int .i64 n1088), (2, .int .i64 n1089)] H) (fun p1090 => K .ret [(6, .pointer p1090)] H)
  | _ => none
def cblk_Block_at_a0 (R : Type) (k n : Nat) (vals : List Value) (H : Heap) (K : Xit → Env → Heap → Option R) : Option R := cblk_Block_at_aa0 (cblk_Block_at_p0 k) n vals H K
def cblk_Block_at_Jt {R : Type} (k : Nat) (cblk_Block_at_p0 : Option Addr → Int → Int → Heap → (Option Addr → Int → Int → Option R) → (Option Addr → Option R) → Option R) : JTab R := tcons 0 (cblk_Block_at_aa0 cblk_Block_at_p0 k) <| fun _ _ _ _ => none
def cblk_Block_at_J (R : Type) (k : Nat) : JTab R := cblk_Block_at_Jt k (cblk_Block_at_p0 k)
def cblk_Block_at_at : AT := (.seq (.reg [0, 1, 2] []) (.seq (.opq 0 [0, 1, 2] ⟨[0, 1, 2], [], [6]⟩ (.seq (.reg [0, 1, 2, 32] []) (.cond (.seq (.reg [6] []) .leaf) .leaf))) (.seq (.reg [6] [[], [0], [0, 1], [0, 1, 2], [], [], [5], [5, 6], [5, 6, 7], [4, 5, 6, 7, 8], [], [4, 5, 6, 7, 8, 9, 10], [0, 1, 2, 3, 4, 5, 6, 7, 8, 9, 10, 11], [0, 1, 2, 3, 4, 5, 6, 7, 8, 9, 10, 11, 12]]) .leaf)))
def cblk_Block_at_i0 : IC := (.seq (.reg [⟨some 7, .mov (.t 0), none⟩,
 ⟨some 8, .eqnil (.t 7) false 0, none⟩,
 ⟨some 9, .mov (.t 8), none⟩,
 ⟨some 10, .mov (.t 1), some (9, false)⟩,
 ⟨some 11, .cmp .lss (.t 10) (.c (Go.Value.int Go.IntKind.i64 0)), some (9, false)⟩,
 ⟨some 12, .pick (.t 9) (.c (Go.Value.bool true)) (.t 11), none⟩,
 ⟨some 13, .mov (.t 12), none⟩,
 ⟨some 14, .mov (.t 1), some (13, false)⟩,
 ⟨some 15, .mov (.t 0), some (13, false)⟩,
 ⟨some 16, .nilc (.t 15), some (13, false)⟩,
 ⟨some 17, .fad 0 (.t 16), some (13, false)⟩,
 ⟨some 18, .ld (.sc (.int .i64)) (.t 17), some (13, false)⟩,
 ⟨some 19, .cmp .geq (.t 14) (.t 18), some (13, false)⟩,
 ⟨some 20, .pick (.t 13) (.c (Go.Value.bool true)) (.t 19), none⟩,
 ⟨some 21, .mov (.t 20), none⟩,
 ⟨some 22, .mov (.t 2), some (21, false)⟩,
 ⟨some 23, .cmp .lss (.t 22) (.c (Go.Value.int Go.IntKind.i64 0)), some (21, false)⟩,
 ⟨some 24, .pick (.t 21) (.c (Go.Value.bool true)) (.t 23), none⟩,
 ⟨some 25, .mov (.t 24), none⟩,
 ⟨some 26, .mov (.t 2), some (25, false)⟩,
 ⟨some 27, .mov (.t 0), some (25, false)⟩,
 ⟨some 28, .nilc (.t 27), some (25, false)⟩,
 ⟨some 29, .fad 1 (.t 28), some (25, false)⟩,
 ⟨some 30, .ld (.sc (.int .i64)) (.t 29), some (25, false)⟩,
 ⟨some 31, .cmp .geq (.t 26) (.t 30), some (25, false)⟩,
 ⟨some 32, .pick (.t 25) (.c (Go.Value.bool true)) (.t 31), none⟩] [0, 1, 2, 32]) (.cond (.t 32) (.seq (.reg [⟨some 6, .mov (.c (Go.Value.pointer none)), none⟩] [6]) .ret) .skip))
def cblk_Block_at_f : IFn := ⟨46, [.t 6], (.seq (.reg [⟨some 6, .mov (.c (Go.Value.pointer none)), none⟩] [0, 1, 2]) (.seq (.opq 0 [0, 1, 2] cblk_Block_at_i0) (.seq (.reg [⟨some 33, .mov (.t 0), none⟩,
 ⟨some 34, .nilc (.t 33), none⟩,
 ⟨some 35, .fad 2 (.t 34), none⟩,
 ⟨some 36, .ld (.sc .slc) (.t 35), none⟩,
 ⟨some 37, .mov (.t 2), none⟩,
 ⟨some 38, .mov (.t 0), none⟩,
 ⟨some 39, .nilc (.t 38), none⟩,
 ⟨some 40, .fad 0 (.t 39), none⟩,
 ⟨some 41, .ld (.sc (.int .i64)) (.t 40), none⟩,
 ⟨some 42, .bin .mul .i64 (.t 37) (.t 41), none⟩,
 ⟨some 43, .mov (.t 1), none⟩,
 ⟨some 44, .bin .add .i64 (.t 42) (.t 43), none⟩,
 ⟨some 45, .ids 4 (.t 36) (.t 44), none⟩,
 ⟨some 6, .mov (.t 45), none⟩] [6]) .ret)))⟩
theorem cblk_Block_at_e0 {R : Type} (cblk_Block_at_p0 : Option Addr → Int → Int → Heap → (Option Addr → Int → Int → Option R) → (Option Addr → Option R) → Option R) (k : Nat) (p197 : Option Addr) (n198 : Int) (n199 : Int) (H : Heap) (K : Xit → Env → Heap → Option R) : evJ (cblk_Block_at_Ct) (cblk_Block_at_Jt k cblk_Block_at_p0) cblk_Block_at_i0 (List.zip [0, 1, 2] [.pointer p197, .int .i64 n198, .int .i64 n199]) H (fun x e' H' => K x (clean e' ((⟨[0, 1, 2], [], [6]⟩ : Out).of x)) H') = cblk_Block_at_p0_b k p197 n198 n199 H (fun p1087 n1088 n1089 => K .normal [(0, .pointer p1087), (1, .int .i64 n1088), (2, .int .i64 n1089)] H) (fun p1090 => K .ret [(6, .pointer p1090)] H) := by kernel_rfl
theorem cblk_Block_at_j0 {R : Type} (k : Nat) : JS Try.prog 46 (cblk_Block_at_a0 R k k) [0, 1, 2] ⟨[0, 1, 2], [], [6]⟩ (sel [1, 0] (Try.f46.body.getD .skip)) :=
  piece_ok (nt := 46) (c := (sel [1, 0] (Try.f46.body.getD .skip))) (C := cblk_Block_at_C R k) (an := An) (t := (.seq (.reg [0, 1, 2, 32] []) (.cond (.seq (.reg [6] []) .leaf) .leaf))) (ic := cblk_Block_at_i0) (cblk_Block_at_S R k) (cblk_Block_at_J R k) (by kernel_rfl) (And.intro True.intro (And.intro (And.intro True.intro True.intro) True.intro)) (cblk_Block_at_a0 R k k)
    (fun vals H K r h => by
      unfold cblk_Block_at_a0 cblk_Block_at_aa0 at h
      split at h <;> first | (cases h; done) | exact Eq.trans (cblk_Block_at_e0 (cblk_Block_at_p0 k) k _ _ _ H K) h)
def cblk_Block_at_ca {R : Type} (f : Option Addr → Int → Int → Heap → (Option Addr → Option R) → Option R) (args : List Value) (H : Heap) (K : Value → Heap → Option R) : Option R :=
  match args with
  | [.pointer p194, .int .i64 n195, .int .i64 n196] => f p194 n195 n196 H (fun p1091 => K (.pointer p1091) H)
  | _ => none
def cblk_Block_at_c (R : Type) (k : Nat) (args : List Value) (H : Heap) (K : Value → Heap → Option R) : Option R := cblk_Block_at_ca (cblk_Block_at k) args H K
theorem cblk_Block_at_e {R : Type} (cblk_Block_at_p0 : Option Addr → Int → Int → Heap → (Option Addr → Int → Int → Option R) → (Option Addr → Option R) → Option R) (k : Nat) (p194 : Option Addr) (n195 : Int) (n196 : Int) (H : Heap) (K : Value → Heap → Option R) : evF (cblk_Block_at_Ct) (cblk_Block_at_Jt k cblk_Block_at_p0) cblk_Block_at_f [.pointer p194, .int .i64 n195, .int .i64 n196] H K = cblk_Block_at_b cblk_Block_at_p0 k p194 n195 n196 H (fun p1091 => K (.pointer p1091) H) := by kernel_rfl
theorem cblk_Block_at_cs (R : Type) (k : Nat) : ∀ args H K r, cblk_Block_at_c R k args H K = some r → ∃ v H', Tri Try.prog 46 args H v H' ∧ K v H' = some r := by
  intro args H K r h
  unfold cblk_Block_at_c cblk_Block_at_ca at h
  split at h
  · exact evF_ok (C := cblk_Block_at_C R k) (an := An) (t := cblk_Block_at_at) (fn := Try.f46) (c := (Try.f46.body.getD .skip)) (ifn := cblk_Block_at_f) (cblk_Block_at_S R k) (cblk_Block_at_J R k) Try.func46 (by kernel_rfl) (by kernel_rfl) (And.intro True.intro (And.intro (cblk_Block_at_j0 k) (And.intro True.intro True.intro))) rfl (Eq.trans (cblk_Block_at_e (cblk_Block_at_p0 k) k _ _ _ H K) h)
  · cases h
/-! ### cblk_Block_missing: function 47 -/
def cblk_Block_missing_b {R : Type} (k : Nat) (p225 : Option Addr) (H : Heap) (K : Int → Option R) : Option R :=
bif p225.isNone then (K 6)
 else (hnil p225 fun p226 =>
hfad 2 p226 fun p227 =>
ldL H p227 fun q228 l229 c230 =>
bif (((l229 : Nat) : Int) == 0) then (K 6)
 else (K 2))

def cblk_Block_missing {R : Type} (p225 : Option Addr) (H : Heap) (K : Int → Option R) : Option R := cblk_Block_missing_b 0 p225 H K

def cblk_Block_missing_Ct {R : Type} : Tab R := fun _ _ _ _ => none
def cblk_Block_missing_C (R : Type) (k : Nat) : Tab R := cblk_Block_missing_Ct
theorem cblk_Block_missing_S (R : Type) (k : Nat) : CSound Try.prog (cblk_Block_missing_C R k) := csound_nil
def cblk_Block_missing_Jt {R : Type} (k : Nat) : JTab R := fun _ _ _ _ => none
def cblk_Block_missing_J (R : Type) (k : Nat) : JTab R := cblk_Block_missing_Jt k
def cblk_Block_missing_at : AT := (.seq (.reg [0] []) (.seq (.seq (.reg [12] []) (.cond (.seq (.reg [2] []) .leaf) .leaf)) (.seq (.reg [2] []) .leaf)))
def cblk_Block_missing_f : IFn := ⟨13, [.t 2], (.seq (.reg [⟨some 2, .mov (.c (Go.Value.int Go.IntKind.i64 0)), none⟩] [0]) (.seq (.seq (.reg [⟨some 3, .mov (.t 0), none⟩,
 ⟨some 4, .eqnil (.t 3) false 0, none⟩,
 ⟨some 5, .mov (.t 4), none⟩,
 ⟨some 6, .mov (.t 0), some (5, false)⟩,
 ⟨some 7, .nilc (.t 6), some (5, false)⟩,
 ⟨some 8, .fad 2 (.t 7), some (5, false)⟩,
 ⟨some 9, .ld (.sc .slc) (.t 8), some (5, false)⟩,
 ⟨some 10, .len false (.t 9), some (5, false)⟩,
 ⟨some 11, .cmp .eql (.t 10) (.c (Go.Value.int Go.IntKind.i64 0)), some (5, false)⟩,
 ⟨some 12, .pick (.t 5) (.c (Go.Value.bool true)) (.t 11), none⟩] [12]) (.cond (.t 12) (.seq (.reg [⟨some 2, .mov (.c (Go.Value.int Go.IntKind.i64 6)), none⟩] [2]) .ret) .skip)) (.seq (.reg [⟨some 2, .mov (.c (Go.Value.int Go.IntKind.i64 2)), none⟩] [2]) .ret)))⟩
def cblk_Block_missing_ca {R : Type} (f : Option Addr → Heap → (Int → Option R) → Option R) (args : List Value) (H : Heap) (K : Value → Heap → Option R) : Option R :=
  match args with
  | [.pointer p225] => f p225 H (fun n1092 => K (.int .i64 n1092) H)
  | _ => none
def cblk_Block_missing_c (R : Type) (k : Nat) (args : List Value) (H : Heap) (K : Value → Heap → Option R) : Option R := cblk_Block_missing_ca cblk_Block_missing args H K
theorem cblk_Block_missing_e {R : Type} (k : Nat) (p225 : Option Addr) (H : Heap) (K : Value → Heap → Option R) : evF (cblk_Block_missing_Ct) (cblk_Block_missing_Jt k) cblk_Block_missing_f [.pointer p225] H K = cblk_Block_missing_b k p225 H (fun n1092 => K (.int .i64 n1092) H) := by kernel_rfl
theorem cblk_Block_missing_cs (R : Type) (k : Nat) : ∀ args H K r, cblk_Block_missing_c R k args H K = some r → ∃ v H', Tri Try.prog 47 args H v H' ∧ K v H' = some r := by
  intro args H K r h
  unfold cblk_Block_missing_c cblk_Block_missing_ca at h
  split at h
  · exact evF_ok (C := cblk_Block_missing_C R 0) (an := An) (t := cblk_Block_missing_at) (fn := Try.f47) (c := (Try.f47.body.getD .skip)) (ifn := cblk_Block_missing_f) (cblk_Block_missing_S R 0) (cblk_Block_missing_J R 0) Try.func47 (by kernel_rfl) (by kernel_rfl) (And.intro True.intro (And.intro (And.intro True.intro (And.intro (And.intro True.intro True.intro) True.intro)) (And.intro True.intro True.intro))) rfl (Eq.trans (cblk_Block_missing_e 0 _ H K) h)
  · cases h
/-! ### cblk_Block_Set: function 42 -/
def cblk_Block_Set_p0_b {R : Type} (k : Nat) (n196 : Int) (p197 : Option Addr) (KN : Int → Option Addr → Option R) (KR : Int → Option R) : Option R :=
bif decide (n196 > 1152921504606846975) then (KR 2)
 else (bif decide (n196 < (-1152921504606846975)) then (KR 2)
 else (KN n196 p197))
def cblk_Block_Set_p0 {R : Type} (k : Nat) (n196 : Int) (p197 : Option Addr) (KN : Int → Option Addr → Option R) (KR : Int → Option R) : Option R := cblk_Block_Set_p0_b k n196 p197 KN KR

def cblk_Block_Set_b {R : Type} (cblk_Block_at : Option Addr → Int → Int → Heap → (Option Addr → Option R) → Option R) (cblk_Block_missing : Option Addr → Heap → (Int → Option R) → Option R) (cblk_Block_Set_p0 : Int → Option Addr → (Int → Option Addr → Option R) → (Int → Option R) → Option R) (k : Nat) (p190 : Option Addr) (n191 : Int) (n192 : Int) (n193 : Int) (H : Heap) (K : Int → Heap → Option R) : Option R :=
cblk_Block_at p190 n191 n192 H fun p194 =>
bif p194.isNone then (cblk_Block_missing p190 H fun n195 =>
K n195 H)
 else (cblk_Block_Set_p0 n193 p194 (fun n201 p202 =>
hnil p202 fun p203 =>
hfad 0 p203 fun p204 =>
hst1 H p204 (.int .i64 n201) fun H205 =>
K 0 H205) (fun n206 =>
K n206 H))

def cblk_Block_Set {R : Type} (k : Nat) (p190 : Option Addr) (n191 : Int) (n192 : Int) (n193 : Int) (H : Heap) (K : Int → Heap → Option R) : Option R := cblk_Block_Set_b (cblk_Block_at k) cblk_Block_missing (cblk_Block_Set_p0 k) k p190 n191 n192 n193 H K

def cblk_Block_Set_Ct {R : Type} (cblk_Block_at : Option Addr → Int → Int → Heap → (Option Addr → Option R) → Option R) (cblk_Block_missing : Option Addr → Heap → (Int → Option R) → Option R) : Tab R := tcons 46 (cblk_Block_at_ca cblk_Block_at) <| tcons 47 (cblk_Block_missing_ca cblk_Block_missing) <| fun _ _ _ _ => none
def cblk_Block_Set_C (R : Type) (k : Nat) : Tab R := cblk_Block_Set_Ct (cblk_Block_at k) cblk_Block_missing
theorem cblk_Block_Set_S (R : Type) (k : Nat) : CSound Try.prog (cblk_Block_Set_C R k) := csound_cons (cblk_Block_at_cs R k) <| csound_cons (cblk_Block_missing_cs R k) <| csound_nil
def cblk_Block_Set_aa0 {R : Type} (f : Int → Option Addr → (Int → Option Addr → Option R) → (Int → Option R) → Option R) (n : Nat) (vals : List Value) (H : Heap) (K : Xit → Env → Heap → Option R) : Option R :=
  match vals with
  | [.int .i64 n196, .pointer p197] => f n196 p197 (fun n1093 p1094 => K .normal [(3, .int .i64 n1093), (9, .pointer p1094)] H) (fun n1095 => K .ret [(8, .int .i64 n1095)] H)
  | _ => none
def cblk_Block_Set_a0 (R : Type) (k n : Nat) (vals : List Value) (H : Heap) (K : Xit → Env → Heap → Option R) : Option R := cblk_Block_Set_aa0 (cblk_Block_Set_p0 k) n vals H K
def cblk_Block_Set_Jt {R : Type} (k : Nat) (cblk_Block_Set_p0 : Int → Option Addr → (Int → Option Addr → Option R) → (Int → Option R) → Option R) : JTab R := tcons 0 (cblk_Block_Set_aa0 cblk_Block_Set_p0 k) <| fun _ _ _ _ => none
def cblk_Block_Set_J (R : Type) (k : Nat) : JTab R := cblk_Block_Set_Jt k (cblk_Block_Set_p0 k)
def cblk_Block_Set_at : AT := (.seq (.reg [0, 1, 2, 3] []) (.seq (.reg [0, 3, 9] []) (.seq (.seq (.reg [0, 3, 9, 15] []) (.cond (.seq (.reg [8] []) .leaf) .leaf)) (.seq (.opq 0 [3, 9] ⟨[3, 9], [], [8]⟩ (.seq (.reg [3, 9, 23] []) (.cond (.seq (.reg [8] []) .leaf) .leaf))) (.seq (.reg [] []) (.seq (.reg [8] []) .leaf))))))
def cblk_Block_Set_i0 : IC := (.seq (.reg [⟨some 18, .mov (.t 3), none⟩,
 ⟨some 19, .cmp .gtr (.t 18) (.c (Go.Value.int Go.IntKind.i64 1152921504606846975)), none⟩,
 ⟨some 20, .mov (.t 19), none⟩,
 ⟨some 21, .mov (.t 3), some (20, false)⟩,
 ⟨some 22, .cmp .lss (.t 21) (.c (Go.Value.int Go.IntKind.i64 (-1152921504606846975))), some (20, false)⟩,
 ⟨some 23, .pick (.t 20) (.c (Go.Value.bool true)) (.t 22), none⟩] [3, 9, 23]) (.cond (.t 23) (.seq (.reg [⟨some 8, .mov (.c (Go.Value.int Go.IntKind.i64 2)), none⟩] [8]) .ret) .skip))
def cblk_Block_Set_f : IFn := ⟨28, [.t 8], (.seq (.reg [⟨some 8, .mov (.c (Go.Value.int Go.IntKind.i64 0)), none⟩] [0, 1, 2, 3]) (.seq (.reg [⟨some 10, .mov (.t 0), none⟩,
 ⟨some 11, .mov (.t 1), none⟩,
 ⟨some 12, .mov (.t 2), none⟩,
 ⟨some 13, .call 46 [(.t 10), (.t 11), (.t 12)] (.one (.sc .ptr)), none⟩,
 ⟨some 9, .mov (.t 13), none⟩] [0, 3, 9]) (.seq (.seq (.reg [⟨some 14, .mov (.t 9), none⟩,
 ⟨some 15, .eqnil (.t 14) false 0, none⟩] [0, 3, 9, 15]) (.cond (.t 15) (.seq (.reg [⟨some 16, .mov (.t 0), none⟩,
 ⟨some 17, .call 47 [(.t 16)] (.one (.sc (.int .i64))), none⟩,
 ⟨some 8, .mov (.t 17), none⟩] [8]) .ret) .skip)) (.seq (.opq 0 [3, 9] cblk_Block_Set_i0) (.seq (.reg [⟨some 24, .mov (.t 9), none⟩,
 ⟨some 25, .mov (.t 3), none⟩,
 ⟨some 26, .nilc (.t 24), none⟩,
 ⟨some 27, .fad 0 (.t 26), none⟩,
 ⟨none, .st 1 (.t 27) (.t 25), none⟩] []) (.seq (.reg [⟨some 8, .mov (.c (Go.Value.int Go.IntKind.i64 0)), none⟩] [8]) .ret))))))⟩
theorem cblk_Block_Set_e0 {R : Type} (cblk_Block_at : Option Addr → Int → Int → Heap → (Option Addr → Option R) → Option R) (cblk_Block_missing : Option Addr → Heap → (Int → Option R) → Option R) (cblk_Block_Set_p0 : Int → Option Addr → (Int → Option Addr → Option R) → (Int → Option R) → Option R) (k : Nat) (n196 : Int) (p197 : Option Addr) (H : Heap) (K : Xit → Env → Heap → Option R) : evJ (cblk_Block_Set_Ct cblk_Block_at cblk_Block_missing) (cblk_Block_Set_Jt k cblk_Block_Set_p0) cblk_Block_Set_i0 (List.zip [3, 9] [.int .i64 n196, .pointer p197]) H (fun x e' H' => K x (clean e' ((⟨[3, 9], [], [8]⟩ : Out).of x)) H') = cblk_Block_Set_p0_b k n196 p197 (fun n1093 p1094 => K .normal [(3, .int .i64 n1093), (9, .pointer p1094)] H) (fun n1095 => K .ret [(8, .int .i64 n1095)] H) := by kernel_rfl
theorem cblk_Block_Set_j0 {R : Type} (k : Nat) : JS Try.prog 28 (cblk_Block_Set_a0 R k k) [3, 9] ⟨[3, 9], [], [8]⟩ (sel [1, 1, 1, 0] (Try.f42.body.getD .skip)) :=
  piece_ok (nt := 28) (c := (sel [1, 1, 1, 0] (Try.f42.body.getD .skip))) (C := cblk_Block_Set_C R k) (an := An) (t := (.seq (.reg [3, 9, 23] []) (.cond (.seq (.reg [8] []) .leaf) .leaf))) (ic := cblk_Block_Set_i0) (cblk_Block_Set_S R k) (cblk_Block_Set_J R k) (by kernel_rfl) (And.intro True.intro (And.intro (And.intro True.intro True.intro) True.intro)) (cblk_Block_Set_a0 R k k)
    (fun vals H K r h => by
      unfold cblk_Block_Set_a0 cblk_Block_Set_aa0 at h
      split at h <;> first | (cases h; done) | exact Eq.trans (cblk_Block_Set_e0 (cblk_Block_at k) cblk_Block_missing (cblk_Block_Set_p0 k) k _ _ H K) h)
def cblk_Block_Set_ca {R : Type} (f : Option Addr → Int → Int → Int → Heap → (Int → Heap → Option R) → Option R) (args : List Value) (H : Heap) (K : Value → Heap → Option R) : Option R :=
  match args with
  | [.pointer p190, .int .i64 n191, .int .i64 n192, .int .i64 n193] => f p190 n191 n192 n193 H (fun n1096 H => K (.int .i64 n1096) H)
  | _ => none
def cblk_Block_Set_c (R : Type) (k : Nat) (args : List Value) (H : Heap) (K : Value → Heap → Option R) : Option R := cblk_Block_Set_ca (cblk_Block_Set k) args H K
theorem cblk_Block_Set_e {R : Type} (cblk_Block_at : Option Addr → Int → Int → Heap → (Option Addr → Option R) → Option R) (cblk_Block_missing : Option Addr → Heap → (Int → Option R) → Option R) (cblk_Block_Set_p0 : Int → Option Addr → (Int → Option Addr → Option R) → (Int → Option R) → Option R) (k : Nat) (p190 : Option Addr) (n191 : Int) (n192 : Int) (n193 : Int) (H : Heap) (K : Value → Heap → Option R) : evF (cblk_Block_Set_Ct cblk_Block_at cblk_Block_missing) (cblk_Block_Set_Jt k cblk_Block_Set_p0) cblk_Block_Set_f [.pointer p190, .int .i64 n191, .int .i64 n192, .int .i64 n193] H K = cblk_Block_Set_b cblk_Block_at cblk_Block_missing cblk_Block_Set_p0 k p190 n191 n192 n193 H (fun n1096 H => K (.int .i64 n1096) H) := by kernel_rfl
theorem cblk_Block_Set_cs (R : Type) (k : Nat) : ∀ args H K r, cblk_Block_Set_c R k args H K = some r → ∃ v H', Tri Try.prog 42 args H v H' ∧ K v H' = some r := by
  intro args H K r h
  unfold cblk_Block_Set_c cblk_Block_Set_ca at h
  split at h
  · exact evF_ok (C := cblk_Block_Set_C R k) (an := An) (t := cblk_Block_Set_at) (fn := Try.f42) (c := (Try.f42.body.getD .skip)) (ifn := cblk_Block_Set_f) (cblk_Block_Set_S R k) (cblk_Block_Set_J R k) Try.func42 (by kernel_rfl) (by kernel_rfl) (And.intro True.intro (And.intro True.intro (And.intro (And.intro True.intro (And.intro (And.intro True.intro True.intro) True.intro)) (And.intro (cblk_Block_Set_j0 k) (And.intro True.intro (And.intro True.intro True.intro)))))) rfl (Eq.trans (cblk_Block_Set_e (cblk_Block_at k) cblk_Block_missing (cblk_Block_Set_p0 k) k _ _ _ _ H K) h)
  · cases h
/-! ### cblk_Block_Mark: function 27 -/
def cblk_Block_Mark_b {R : Type} (cblk_Block_at : Option Addr → Int → Int → Heap → (Option Addr → Option R) → Option R) (cblk_Block_missing : Option Addr → Heap → (Int → Option R) → Option R) (k : Nat) (p214 : Option Addr) (n215 : Int) (n216 : Int) (H : Heap) (K : Int → Heap → Option R) : Option R :=
cblk_Block_at p214 n215 n216 H fun p217 =>
bif p217.isNone then (cblk_Block_missing p214 H fun n218 =>
K n218 H)
 else (hnil p217 fun p219 =>
hfad 1 p219 fun p220 =>
hst1 H p220 (.bool true) fun H221 =>
K 0 H221)

def cblk_Block_Mark {R : Type} (k : Nat) (p214 : Option Addr) (n215 : Int) (n216 : Int) (H : Heap) (K : Int → Heap → Option R) : Option R := cblk_Block_Mark_b (cblk_Block_at k) cblk_Block_missing k p214 n215 n216 H K

def cblk_Block_Mark_Ct {R : Type} (cblk_Block_at : Option Addr → Int → Int → Heap → (Option Addr → Option R) → Option R) (cblk_Block_missing : Option Addr → Heap → (Int → Option R) → Option R) : Tab R := tcons 46 (cblk_Block_at_ca cblk_Block_at) <| tcons 47 (cblk_Block_missing_ca cblk_Block_missing) <| fun _ _ _ _ => none
def cblk_Block_Mark_C (R : Type) (k : Nat) : Tab R := cblk_Block_Mark_Ct (cblk_Block_at k) cblk_Block_missing
theorem cblk_Block_Mark_S (R : Type) (k : Nat) : CSound Try.prog (cblk_Block_Mark_C R k) := csound_cons (cblk_Block_at_cs R k) <| csound_cons (cblk_Block_missing_cs R k) <| csound_nil
def cblk_Block_Mark_Jt {R : Type} (k : Nat) : JTab R := fun _ _ _ _ => none
def cblk_Block_Mark_J (R : Type) (k : Nat) : JTab R := cblk_Block_Mark_Jt k
def cblk_Block_Mark_at : AT := (.seq (.reg [0, 1, 2] []) (.seq (.reg [0, 7] []) (.seq (.seq (.reg [0, 7, 13] []) (.cond (.seq (.reg [6] []) .leaf) .leaf)) (.seq (.reg [] []) (.seq (.reg [6] []) .leaf)))))
def cblk_Block_Mark_f : IFn := ⟨19, [.t 6], (.seq (.reg [⟨some 6, .mov (.c (Go.Value.int Go.IntKind.i64 0)), none⟩] [0, 1, 2]) (.seq (.reg [⟨some 8, .mov (.t 0), none⟩,
 ⟨some 9, .mov (.t 1), none⟩,
 ⟨some 10, .mov (.t 2), none⟩,
 ⟨some 11, .call 46 [(.t 8), (.t 9), (.t 10)] (.one (.sc .ptr)), none⟩,
 ⟨some 7, .mov (.t 11), none⟩] [0, 7]) (.seq (.seq (.reg [⟨some 12, .mov (.t 7), none⟩,
 ⟨some 13, .eqnil (.t 12) false 0, none⟩] [0, 7, 13]) (.cond (.t 13) (.seq (.reg [⟨some 14, .mov (.t 0), none⟩,
 ⟨some 15, .call 47 [(.t 14)] (.one (.sc (.int .i64))), none⟩,
 ⟨some 6, .mov (.t 15), none⟩] [6]) .ret) .skip)) (.seq (.reg [⟨some 16, .mov (.t 7), none⟩,
 ⟨some 17, .nilc (.t 16), none⟩,
 ⟨some 18, .fad 1 (.t 17), none⟩,
 ⟨none, .st 1 (.t 18) (.c (Go.Value.bool true)), none⟩] []) (.seq (.reg [⟨some 6, .mov (.c (Go.Value.int Go.IntKind.i64 0)), none⟩] [6]) .ret)))))⟩
def cblk_Block_Mark_ca {R : Type} (f : Option Addr → Int → Int → Heap → (Int → Heap → Option R) → Option R) (args : List Value) (H : Heap) (K : Value → Heap → Option R) : Option R :=
  match args with
  | [.pointer p214, .int .i64 n215, .int .i64 n216] => f p214 n215 n216 H (fun n1097 H => K (.int .i64 n1097) H)
  | _ => none
def cblk_Block_Mark_c (R : Type) (k : Nat) (args : List Value) (H : Heap) (K : Value → Heap → Option R) : Option R := cblk_Block_Mark_ca (cblk_Block_Mark k) args H K
theorem cblk_Block_Mark_e {R : Type} (cblk_Block_at : Option Addr → Int → Int → Heap → (Option Addr → Option R) → Option R) (cblk_Block_missing : Option Addr → Heap → (Int → Option R) → Option R) (k : Nat) (p214 : Option Addr) (n215 : Int) (n216 : Int) (H : Heap) (K : Value → Heap → Option R) : evF (cblk_Block_Mark_Ct cblk_Block_at cblk_Block_missing) (cblk_Block_Mark_Jt k) cblk_Block_Mark_f [.pointer p214, .int .i64 n215, .int .i64 n216] H K = cblk_Block_Mark_b cblk_Block_at cblk_Block_missing k p214 n215 n216 H (fun n1097 H => K (.int .i64 n1097) H) := by kernel_rfl
theorem cblk_Block_Mark_cs (R : Type) (k : Nat) : ∀ args H K r, cblk_Block_Mark_c R k args H K = some r → ∃ v H', Tri Try.prog 27 args H v H' ∧ K v H' = some r := by
  intro args H K r h
  unfold cblk_Block_Mark_c cblk_Block_Mark_ca at h
  split at h
  · exact evF_ok (C := cblk_Block_Mark_C R k) (an := An) (t := cblk_Block_Mark_at) (fn := Try.f27) (c := (Try.f27.body.getD .skip)) (ifn := cblk_Block_Mark_f) (cblk_Block_Mark_S R k) (cblk_Block_Mark_J R k) Try.func27 (by kernel_rfl) (by kernel_rfl) (And.intro True.intro (And.intro True.intro (And.intro (And.intro True.intro (And.intro (And.intro True.intro True.intro) True.intro)) (And.intro True.intro (And.intro True.intro True.intro))))) rfl (Eq.trans (cblk_Block_Mark_e (cblk_Block_at k) cblk_Block_missing k _ _ _ H K) h)
  · cases h
/-! ### cblk_Block_Significant: function 25 -/
def cblk_Block_Significant_b {R : Type} (cblk_Block_at : Option Addr → Int → Int → Heap → (Option Addr → Option R) → Option R) (k : Nat) (p214 : Option Addr) (n215 : Int) (n216 : Int) (H : Heap) (K : Bool → Option R) : Option R :=
cblk_Block_at p214 n215 n216 H fun p217 =>
bif p217.isSome then (hnil p217 fun p218 =>
hfad 1 p218 fun p219 =>
ldB H p219 fun t220 =>
K t220)
 else (K false)

def cblk_Block_Significant {R : Type} (k : Nat) (p214 : Option Addr) (n215 : Int) (n216 : Int) (H : Heap) (K : Bool → Option R) : Option R := cblk_Block_Significant_b (cblk_Block_at k) k p214 n215 n216 H K

def cblk_Block_Significant_Ct {R : Type} (cblk_Block_at : Option Addr → Int → Int → Heap → (Option Addr → Option R) → Option R) : Tab R := tcons 46 (cblk_Block_at_ca cblk_Block_at) <| fun _ _ _ _ => none
def cblk_Block_Significant_C (R : Type) (k : Nat) : Tab R := cblk_Block_Significant_Ct (cblk_Block_at k)
theorem cblk_Block_Significant_S (R : Type) (k : Nat) : CSound Try.prog (cblk_Block_Significant_C R k) := csound_cons (cblk_Block_at_cs R k) <| csound_nil
def cblk_Block_Significant_Jt {R : Type} (k : Nat) : JTab R := fun _ _ _ _ => none
def cblk_Block_Significant_J (R : Type) (k : Nat) : JTab R := cblk_Block_Significant_Jt k
def cblk_Block_Significant_at : AT := (.seq (.reg [0, 1, 2] []) (.seq (.reg [7] []) (.seq (.reg [6] []) .leaf)))
def cblk_Block_Significant_f : IFn := ⟨20, [.t 6], (.seq (.reg [⟨some 6, .mov (.c (Go.Value.bool false)), none⟩] [0, 1, 2]) (.seq (.reg [⟨some 8, .mov (.t 0), none⟩,
 ⟨some 9, .mov (.t 1), none⟩,
 ⟨some 10, .mov (.t 2), none⟩,
 ⟨some 11, .call 46 [(.t 8), (.t 9), (.t 10)] (.one (.sc .ptr)), none⟩,
 ⟨some 7, .mov (.t 11), none⟩] [7]) (.seq (.reg [⟨some 12, .mov (.t 7), none⟩,
 ⟨some 13, .eqnil (.t 12) true 0, none⟩,
 ⟨some 14, .mov (.t 13), none⟩,
 ⟨some 15, .mov (.t 7), some (14, true)⟩,
 ⟨some 16, .nilc (.t 15), some (14, true)⟩,
 ⟨some 17, .fad 1 (.t 16), some (14, true)⟩,
 ⟨some 18, .ld (.sc .bool) (.t 17), some (14, true)⟩,
 ⟨some 19, .pick (.t 14) (.t 18) (.c (Go.Value.bool false)), none⟩,
 ⟨some 6, .mov (.t 19), none⟩] [6]) .ret)))⟩
def cblk_Block_Significant_ca {R : Type} (f : Option Addr → Int → Int → Heap → (Bool → Option R) → Option R) (args : List Value) (H : Heap) (K : Value → Heap → Option R) : Option R :=
  match args with
  | [.pointer p214, .int .i64 n215, .int .i64 n216] => f p214 n215 n216 H (fun t1098 => K (.bool t1098) H)
  | _ => none
def cblk_Block_Significant_c (R : Type) (k : Nat) (args : List Value) (H : Heap) (K : Value → Heap → Option R) : Option R := cblk_Block_Significant_ca (cblk_Block_Significant k) args H K
theorem cblk_Block_Significant_e {R : Type} (cblk_Block_at : Option Addr → Int → Int → Heap → (Option Addr → Option R) → Option R) (k : Nat) (p214 : Option Addr) (n215 : Int) (n216 : Int) (H : Heap) (K : Value → Heap → Option R) : evF (cblk_Block_Significant_Ct cblk_Block_at) (cblk_Block_Significant_Jt k) cblk_Block_Significant_f [.pointer p214, .int .i64 n215, .int .i64 n216] H K = cblk_Block_Significant_b cblk_Block_at k p214 n215 n216 H (fun t1098 => K (.bool t1098) H) := by kernel_rfl
theorem cblk_Block_Significant_cs (R : Type) (k : Nat) : ∀ args H K r, cblk_Block_Significant_c R k args H K = some r → ∃ v H', Tri Try.prog 25 args H v H' ∧ K v H' = some r := by
  intro args H K r h
  unfold cblk_Block_Significant_c cblk_Block_Significant_ca at h
  split at h
  · exact evF_ok (C := cblk_Block_Significant_C R k) (an := An) (t := cblk_Block_Significant_at) (fn := Try.f25) (c := (Try.f25.body.getD .skip)) (ifn := cblk_Block_Significant_f) (cblk_Block_Significant_S R k) (cblk_Block_Significant_J R k) Try.func25 (by kernel_rfl) (by kernel_rfl) (And.intro True.intro (And.intro True.intro (And.intro True.intro True.intro))) rfl (Eq.trans (cblk_Block_Significant_e (cblk_Block_at k) k _ _ _ H K) h)
  · cases h
end Go.Proofs.Ytblpaolcgkjcgaa.Sh
