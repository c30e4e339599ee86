/- Lean functions that stand for Go's, over an explicit heap, and the proofs that they do (written by this claim's program shallow.py). -/
import Derived.Test.YtiapgcgpdndkiaaSh0
import Derived.Test.YtiapgcgpdndkiaaSh2
import Derived.Test.YtiapgcgpdndkiaaSh4
import Derived.Test.YtiapgcgpdndkiaaSh5
set_option maxRecDepth 100000
set_option linter.unusedVariables false
set_option linter.unusedSimpArgs false
namespace Go.Proofs.Ytiapgcgpdndkiaa.Sh
open Go.Proofs.Ytiapgcgpdndkiaa.FW
/-! ### L_BitioStuffs: function 4 -/
def L_BitioStuffs_l0_b {R : Type} (L_write : Option Addr → Int → Int → Int → Heap → (Int → Heap → Option R) → Option R) (rec : Option Addr → Option Addr → Nat → Nat → Int → Int → Heap → Option R) (KE0 : Option Addr → Heap → Option R) (k : Nat) (p99 : Option Addr) (q100 : Option Addr) (l101 : Nat) (c102 : Nat) (n103 : Int) (n104 : Int) (H : Heap) : Option R :=
bif decide (n104 < n103) then (hidx q100 l101 n104 3 fun p105 =>
ldI .i64 H (pad p105 0) fun n106 =>
ldI .i64 H (pad p105 1) fun n107 =>
ldI .i64 H (pad p105 2) fun n108 =>
hal H [.int .i64 0, .int .i64 0, .int .i64 0] fun p109 H110 =>
hst H110 p109 [.int .i64 n106, .int .i64 n107, .int .i64 n108] fun H111 =>
ldI .i64 H111 (pad p109 0) fun n112 =>
ldI .i64 H111 (pad p109 1) fun n113 =>
ldI .i64 H111 (pad p109 2) fun n114 =>
L_write p99 n112 n113 n114 H111 fun n115 H116 =>
rec p99 q100 l101 c102 n103 (IntKind.wrap .i64 (n104 + 1)) H116)
 else (KE0 p99 H)
def L_BitioStuffs_l0 {R : Type} (k : Nat) (KE0 : Option Addr → Heap → Option R) : Nat → Option Addr → Option Addr → Nat → Nat → Int → Int → Heap → Option R
  | 0, _, _, _, _, _, _, _ => none
  | n + 1, p99, q100, l101, c102, n103, n104, H => L_BitioStuffs_l0_b (L_write k) (L_BitioStuffs_l0 k KE0 n) KE0 k p99 q100 l101 c102 n103 n104 H

def L_BitioStuffs_p2_b {R : Type} (k : Nat) (p133 : Option Addr) (q134 : Option Addr) (l135 : Nat) (c136 : Nat) (q137 : Option Addr) (l138 : Nat) (c139 : Nat) (n140 : Int) (n141 : Int) (H : Heap) (KN : Option Addr → Option Addr → Nat → Nat → Option Addr → Nat → Nat → Int → Int → Option R) (KR : Bool → Option R) : Option R :=
hidx q137 l138 n141 1 fun p142 =>
ldI .u8 H p142 fun n143 =>
bif (n143 == 255) then (bif ((IntKind.wrap .i64 (n141 + 1)) == ((l135 : Nat) : Int)) then (KR false)
 else (hidx q134 l135 (IntKind.wrap .i64 (n141 + 1)) 1 fun p144 =>
ldI .u8 H p144 fun n145 =>
bif decide (n145 ≥ 128) then (KR false)
 else (KN p133 q134 l135 c136 q137 l138 c139 n140 n141)))
 else (KN p133 q134 l135 c136 q137 l138 c139 n140 n141)
def L_BitioStuffs_p2 {R : Type} (k : Nat) (p133 : Option Addr) (q134 : Option Addr) (l135 : Nat) (c136 : Nat) (q137 : Option Addr) (l138 : Nat) (c139 : Nat) (n140 : Int) (n141 : Int) (H : Heap) (KN : Option Addr → Option Addr → Nat → Nat → Option Addr → Nat → Nat → Int → Int → Option R) (KR : Bool → Option R) : Option R := L_BitioStuffs_p2_b k p133 q134 l135 c136 q137 l138 c139 n140 n141 H KN KR

def L_BitioStuffs_l1_b {R : Type} (L_BitioStuffs_p2 : Option Addr → Option Addr → Nat → Nat → Option Addr → Nat → Nat → Int → Int → Heap → (Option Addr → Option Addr → Nat → Nat → Option Addr → Nat → Nat → Int → Int → Option R) → (Bool → Option R) → Option R) (rec : Option Addr → Option Addr → Nat → Nat → Option Addr → Nat → Nat → Int → Int → Heap → Option R) (KE2 : Option Addr → Option Addr → Nat → Nat → Option R) (KR : Bool → Option R) (k : Nat) (p124 : Option Addr) (q125 : Option Addr) (l126 : Nat) (c127 : Nat) (q128 : Option Addr) (l129 : Nat) (c130 : Nat) (n131 : Int) (n132 : Int) (H : Heap) : Option R :=
bif decide (n132 < n131) then (L_BitioStuffs_p2 p124 q125 l126 c127 q128 l129 c130 n131 n132 H (fun p156 q157 l158 c159 q160 l161 c162 n163 n164 =>
rec p156 q157 l158 c159 q160 l161 c162 n163 (IntKind.wrap .i64 (n164 + 1)) H) (fun t165 =>
KR t165))
 else (KE2 p124 q125 l126 c127)
def L_BitioStuffs_l1 {R : Type} (k : Nat) (KE2 : Option Addr → Option Addr → Nat → Nat → Option R) (KR : Bool → Option R) : Nat → Option Addr → Option Addr → Nat → Nat → Option Addr → Nat → Nat → Int → Int → Heap → Option R
  | 0, _, _, _, _, _, _, _, _, _, _ => none
  | n + 1, p124, q125, l126, c127, q128, l129, c130, n131, n132, H => L_BitioStuffs_l1_b (L_BitioStuffs_p2 k) (L_BitioStuffs_l1 k KE2 KR n) KE2 KR k p124 q125 l126 c127 q128 l129 c130 n131 n132 H

def L_BitioStuffs_b {R : Type} (L_few : Option Addr → Nat → Nat → Heap → (Bool → Heap → Option R) → Option R) (L_exampleHoldsq : (Bool → Option R) → Option R) (bitio_NewWriter : Heap → (Option Addr → Heap → Option R) → Option R) (L_BitioStuffs_l0 : (Option Addr → Heap → Option R) → Nat → Option Addr → Option Addr → Nat → Nat → Int → Int → Heap → Option R) (bitio_Writer_Bytes : Option Addr → Heap → (Option Addr → Nat → Nat → Heap → Option R) → Option R) (L_BitioStuffs_l1 : (Option Addr → Option Addr → Nat → Nat → Option R) → (Bool → Option R) → Nat → Option Addr → Option Addr → Nat → Nat → Option Addr → Nat → Nat → Int → Int → Heap → Option R) (bitio_Writer_Len : Option Addr → Heap → (Int → Option R) → Option R) (k : Nat) (q91 : Option Addr) (l92 : Nat) (c93 : Nat) (H : Heap) (K : Bool → Heap → Option R) : Option R :=
L_few q91 l92 c93 H fun t94 H95 =>
bif (!t94) then (L_exampleHoldsq fun t96 =>
K t96 H95)
 else (bitio_NewWriter H95 fun p97 H98 =>
L_BitioStuffs_l0 (fun p118 H119 =>
bitio_Writer_Bytes p118 H119 fun q120 l121 c122 H123 =>
L_BitioStuffs_l1 (fun p171 q172 l173 c174 =>
bitio_Writer_Len p171 H123 fun n175 =>
bif decide ((IntKind.wrap .i64 (8 * ((l173 : Nat) : Int))) ≥ n175) then (bitio_Writer_Len p171 H123 fun n176 =>
bif decide (n176 > 0) then (L_exampleHoldsq fun t177 =>
K t177 H123)
 else (bif (((l173 : Nat) : Int) == 0) then (L_exampleHoldsq fun t178 =>
K t178 H123)
 else (K false H123)))
 else (K false H123)) (fun t179 =>
K t179 H123) k p118 q120 l121 c122 q120 l121 c122 ((l121 : Nat) : Int) 0 H123) k p97 q91 l92 c93 ((l92 : Nat) : Int) 0 H98)

def L_BitioStuffs {R : Type} (k : Nat) (q91 : Option Addr) (l92 : Nat) (c93 : Nat) (H : Heap) (K : Bool → Heap → Option R) : Option R := L_BitioStuffs_b (L_few k) L_exampleHoldsq bitio_NewWriter (L_BitioStuffs_l0 k) (bitio_Writer_Bytes k) (L_BitioStuffs_l1 k) bitio_Writer_Len k q91 l92 c93 H K

def L_BitioStuffs_Ct {R : Type} (L_few : Option Addr → Nat → Nat → Heap → (Bool → Heap → Option R) → Option R) (L_exampleHoldsq : (Bool → Option R) → Option R) (bitio_NewWriter : Heap → (Option Addr → Heap → Option R) → Option R) (L_write : Option Addr → Int → Int → Int → Heap → (Int → Heap → Option R) → Option R) (bitio_Writer_Bytes : Option Addr → Heap → (Option Addr → Nat → Nat → Heap → Option R) → Option R) (bitio_Writer_Len : Option Addr → Heap → (Int → Option R) → Option R) : Tab R := tcons 10 (L_few_ca L_few) <| tcons 11 (L_exampleHoldsq_ca L_exampleHoldsq) <| tcons 12 (bitio_NewWriter_ca bitio_NewWriter) <| tcons 14 (L_write_ca L_write) <| tcons 19 (bitio_Writer_Bytes_ca bitio_Writer_Bytes) <| tcons 16 (bitio_Writer_Len_ca bitio_Writer_Len) <| fun _ _ _ _ => none
def L_BitioStuffs_C (R : Type) (k : Nat) : Tab R := L_BitioStuffs_Ct (L_few k) L_exampleHoldsq bitio_NewWriter (L_write k) (bitio_Writer_Bytes k) bitio_Writer_Len
theorem L_BitioStuffs_S (R : Type) (k : Nat) : CSound Try.prog (L_BitioStuffs_C R k) := csound_cons (L_few_cs R k) <| csound_cons (L_exampleHoldsq_cs R k) <| csound_cons (bitio_NewWriter_cs R k) <| csound_cons (L_write_cs R k) <| csound_cons (bitio_Writer_Bytes_cs R k) <| csound_cons (bitio_Writer_Len_cs R k) <| csound_nil
def L_BitioStuffs_aa0 {R : Type} (f : (Option Addr → Heap → Option R) → Nat → Option Addr → Option Addr → Nat → Nat → Int → Int → Heap → Option R) (n : Nat) (vals : List Value) (H : Heap) (K : Xit → Env → Heap → Option R) : Option R :=
  match vals with
  | [.pointer p99, .slice q100 l101 c102, .int .i64 n103, .int .i64 n104] => f (fun p1089 H => K (.exit 0) [(3, .pointer p1089)] H) n p99 q100 l101 c102 n103 n104 H
  | _ => none
def L_BitioStuffs_a0 (R : Type) (k n : Nat) (vals : List Value) (H : Heap) (K : Xit → Env → Heap → Option R) : Option R := L_BitioStuffs_aa0 (L_BitioStuffs_l0 k) n vals H K
def L_BitioStuffs_aa1 {R : Type} (f : (Option Addr → Option Addr → Nat → Nat → Option R) → (Bool → Option R) → Nat → Option Addr → Option Addr → Nat → Nat → Option Addr → Nat → Nat → Int → Int → Heap → Option R) (n : Nat) (vals : List Value) (H : Heap) (K : Xit → Env → Heap → Option R) : Option R :=
  match vals with
  | [.pointer p124, .slice q125 l126 c127, .slice q128 l129 c130, .int .i64 n131, .int .i64 n132] => f (fun p1090 q1091 l1092 c1093 => K (.exit 2) [(3, .pointer p1090), (6, .slice q1091 l1092 c1093)] H) (fun t1094 => K .ret [(2, .bool t1094)] H) n p124 q125 l126 c127 q128 l129 c130 n131 n132 H
  | _ => none
def L_BitioStuffs_a1 (R : Type) (k n : Nat) (vals : List Value) (H : Heap) (K : Xit → Env → Heap → Option R) : Option R := L_BitioStuffs_aa1 (L_BitioStuffs_l1 k) n vals H K
def L_BitioStuffs_aa2 {R : Type} (f : Option Addr → Option Addr → Nat → Nat → Option Addr → Nat → Nat → Int → Int → Heap → (Option Addr → Option Addr → Nat → Nat → Option Addr → Nat → Nat → Int → Int → Option R) → (Bool → Option R) → Option R) (n : Nat) (vals : List Value) (H : Heap) (K : Xit → Env → Heap → Option R) : Option R :=
  match vals with
  | [.pointer p133, .slice q134 l135 c136, .slice q137 l138 c139, .int .i64 n140, .int .i64 n141] => f p133 q134 l135 c136 q137 l138 c139 n140 n141 H (fun p1095 q1096 l1097 c1098 q1099 l1100 c1101 n1102 n1103 => K .normal [(3, .pointer p1095), (6, .slice q1096 l1097 c1098), (26, .slice q1099 l1100 c1101), (27, .int .i64 n1102), (28, .int .i64 n1103)] H) (fun t1104 => K .ret [(2, .bool t1104)] H)
  | _ => none
def L_BitioStuffs_a2 (R : Type) (k n : Nat) (vals : List Value) (H : Heap) (K : Xit → Env → Heap → Option R) : Option R := L_BitioStuffs_aa2 (L_BitioStuffs_p2 k) n vals H K
def L_BitioStuffs_Jt {R : Type} (k : Nat) (L_BitioStuffs_l0 : (Option Addr → Heap → Option R) → Nat → Option Addr → Option Addr → Nat → Nat → Int → Int → Heap → Option R) (L_BitioStuffs_l1 : (Option Addr → Option Addr → Nat → Nat → Option R) → (Bool → Option R) → Nat → Option Addr → Option Addr → Nat → Nat → Option Addr → Nat → Nat → Int → Int → Heap → Option R) (L_BitioStuffs_p2 : Option Addr → Option Addr → Nat → Nat → Option Addr → Nat → Nat → Int → Int → Heap → (Option Addr → Option Addr → Nat → Nat → Option Addr → Nat → Nat → Int → Int → Option R) → (Bool → Option R) → Option R) : JTab R := tcons 0 (L_BitioStuffs_aa0 L_BitioStuffs_l0 k) <| tcons 1 (L_BitioStuffs_aa1 L_BitioStuffs_l1 k) <| tcons 2 (L_BitioStuffs_aa2 L_BitioStuffs_p2 k) <| fun _ _ _ _ => none
def L_BitioStuffs_J (R : Type) (k : Nat) : JTab R := L_BitioStuffs_Jt k (L_BitioStuffs_l0 k) (L_BitioStuffs_l1 k) (L_BitioStuffs_p2 k)
def L_BitioStuffs_at : AT := (.seq (.reg [0] []) (.seq (.seq (.reg [0, 11] []) (.cond (.seq (.reg [2] []) .leaf) .leaf)) (.seq (.reg [0, 3] []) (.seq (.seq (.reg [3, 14, 15, 16] []) (.node (.opq 0 [3, 14, 15, 16] ⟨[], [(0, [3])], []⟩ (.node (.seq (.reg [3, 14, 15, 16, 17] []) (.seq (.cond .leaf .leaf) (.seq (.node (.seq (.reg [3, 5, 14, 15, 16] []) (.reg [3, 14, 15, 16] []))) (.reg [3, 14, 15, 16] [])))))))) (.seq (.reg [3, 6] []) (.seq (.seq (.reg [3, 6, 26, 27, 28] []) (.node (.opq 1 [3, 6, 26, 27, 28] ⟨[], [(2, [3, 6])], [2]⟩ (.node (.seq (.reg [3, 6, 26, 27, 28, 29] []) (.seq (.cond .leaf .leaf) (.seq (.opq 2 [3, 6, 26, 27, 28] ⟨[3, 6, 26, 27, 28], [], [2]⟩ (.node (.seq (.reg [3, 6, 7, 8, 26, 27, 28] []) (.seq (.reg [3, 6, 26, 27, 28, 49] []) (.cond (.seq (.reg [2] []) .leaf) .leaf))))) (.reg [3, 6, 26, 27, 28] [])))))))) (.seq (.reg [2] []) .leaf)))))))
def L_BitioStuffs_i2 : IC := (.block 3 (.seq (.reg [⟨some 30, .mov (.t 28), none⟩,
 ⟨some 31, .ids 1 (.t 26) (.t 28), none⟩,
 ⟨some 32, .ld (.sc (.int .u8)) (.t 31), none⟩,
 ⟨some 7, .mov (.t 30), none⟩,
 ⟨some 8, .mov (.t 32), none⟩] [3, 6, 7, 8, 26, 27, 28]) (.seq (.reg [⟨some 33, .mov (.t 8), none⟩,
 ⟨some 34, .cmp .eql (.t 33) (.c (Go.Value.int Go.IntKind.u8 255)), none⟩,
 ⟨some 35, .mov (.t 34), none⟩,
 ⟨some 36, .mov (.t 7), some (35, true)⟩,
 ⟨some 37, .bin .add .i64 (.t 36) (.c (Go.Value.int Go.IntKind.i64 1)), some (35, true)⟩,
 ⟨some 38, .mov (.t 6), some (35, true)⟩,
 ⟨some 39, .len false (.t 38), some (35, true)⟩,
 ⟨some 40, .cmp .eql (.t 37) (.t 39), some (35, true)⟩,
 ⟨some 41, .mov (.t 40), some (35, true)⟩,
 ⟨some 42, .mov (.t 6), some (41, false)⟩,
 ⟨some 43, .mov (.t 7), some (41, false)⟩,
 ⟨some 44, .bin .add .i64 (.t 43) (.c (Go.Value.int Go.IntKind.i64 1)), some (41, false)⟩,
 ⟨some 45, .ids 1 (.t 42) (.t 44), some (41, false)⟩,
 ⟨some 46, .ld (.sc (.int .u8)) (.t 45), some (41, false)⟩,
 ⟨some 47, .cmp .geq (.t 46) (.c (Go.Value.int Go.IntKind.u8 128)), some (41, false)⟩,
 ⟨some 48, .pick (.t 41) (.c (Go.Value.bool true)) (.t 47), some (35, true)⟩,
 ⟨some 49, .pick (.t 35) (.t 48) (.c (Go.Value.bool false)), none⟩] [3, 6, 26, 27, 28, 49]) (.cond (.t 49) (.seq (.reg [⟨some 2, .mov (.c (Go.Value.bool false)), none⟩] [2]) .ret) .skip))))
def L_BitioStuffs_i1 : IC := (.seq (.reg [⟨some 29, .cmp .lss (.t 28) (.t 27), none⟩] [3, 6, 26, 27, 28, 29]) (.seq (.cond (.t 29) .skip (.exit 2)) (.seq (.opq 2 [3, 6, 26, 27, 28] L_BitioStuffs_i2) (.reg [⟨some 50, .bin .add .i64 (.t 28) (.c (Go.Value.int Go.IntKind.i64 1)), none⟩,
 ⟨some 28, .mov (.t 50), none⟩] [3, 6, 26, 27, 28]))))
def L_BitioStuffs_i0 : IC := (.seq (.reg [⟨some 17, .cmp .lss (.t 16) (.t 15), none⟩] [3, 14, 15, 16, 17]) (.seq (.cond (.t 17) .skip (.exit 0)) (.seq (.block 1 (.seq (.reg [⟨some 18, .ids 3 (.t 14) (.t 16), none⟩,
 ⟨some 19, .ld (.agg [(.int .i64), (.int .i64), (.int .i64)]) (.t 18), none⟩,
 ⟨some 5, .alc [.int .i64 0, .int .i64 0, .int .i64 0], none⟩,
 ⟨none, .st 3 (.t 5) (.t 19), none⟩] [3, 5, 14, 15, 16]) (.reg [⟨some 20, .mov (.t 3), none⟩,
 ⟨some 21, .ld (.agg [(.int .i64), (.int .i64), (.int .i64)]) (.t 5), none⟩,
 ⟨some 22, .call 14 [(.t 20), (.t 21)] (.one (.sc (.int .i64))), none⟩] [3, 14, 15, 16]))) (.reg [⟨some 23, .bin .add .i64 (.t 16) (.c (Go.Value.int Go.IntKind.i64 1)), none⟩,
 ⟨some 16, .mov (.t 23), none⟩] [3, 14, 15, 16]))))
def L_BitioStuffs_f : IFn := ⟨70, [.t 2], (.seq (.reg [⟨some 2, .mov (.c (Go.Value.bool false)), none⟩] [0]) (.seq (.seq (.reg [⟨some 9, .mov (.t 0), none⟩,
 ⟨some 10, .call 10 [(.t 9)] (.one (.sc .bool)), none⟩,
 ⟨some 11, .lnot (.t 10), none⟩] [0, 11]) (.cond (.t 11) (.seq (.reg [⟨some 12, .call 11 [] (.one (.sc .bool)), none⟩,
 ⟨some 2, .mov (.t 12), none⟩] [2]) .ret) .skip)) (.seq (.reg [⟨some 13, .call 12 [] (.one (.sc .ptr)), none⟩,
 ⟨some 3, .mov (.t 13), none⟩] [0, 3]) (.seq (.seq (.reg [⟨some 14, .mov (.t 0), none⟩,
 ⟨some 15, .len false (.t 14), none⟩,
 ⟨some 16, .mov (.c (Go.Value.int Go.IntKind.i64 0)), none⟩] [3, 14, 15, 16]) (.block 0 (.opq 0 [3, 14, 15, 16] (.loop L_BitioStuffs_i0)))) (.seq (.reg [⟨some 24, .mov (.t 3), none⟩,
 ⟨some 25, .call 19 [(.t 24)] (.one (.sc .slc)), none⟩,
 ⟨some 6, .mov (.t 25), none⟩] [3, 6]) (.seq (.seq (.reg [⟨some 26, .mov (.t 6), none⟩,
 ⟨some 27, .len false (.t 26), none⟩,
 ⟨some 28, .mov (.c (Go.Value.int Go.IntKind.i64 0)), none⟩] [3, 6, 26, 27, 28]) (.block 2 (.opq 1 [3, 6, 26, 27, 28] (.loop L_BitioStuffs_i1)))) (.seq (.reg [⟨some 51, .mov (.t 6), none⟩,
 ⟨some 52, .len false (.t 51), none⟩,
 ⟨some 53, .bin .mul .i64 (.c (Go.Value.int Go.IntKind.i64 8)) (.t 52), none⟩,
 ⟨some 54, .mov (.t 3), none⟩,
 ⟨some 55, .call 16 [(.t 54)] (.one (.sc (.int .i64))), none⟩,
 ⟨some 56, .cmp .geq (.t 53) (.t 55), none⟩,
 ⟨some 57, .mov (.t 56), none⟩,
 ⟨some 58, .mov (.t 3), some (57, true)⟩,
 ⟨some 59, .call 16 [(.t 58)] (.one (.sc (.int .i64))), some (57, true)⟩,
 ⟨some 60, .cmp .gtr (.t 59) (.c (Go.Value.int Go.IntKind.i64 0)), some (57, true)⟩,
 ⟨some 61, .mov (.t 60), some (57, true)⟩,
 ⟨some 62, .mov (.t 6), some (61, false)⟩,
 ⟨some 63, .len false (.t 62), some (61, false)⟩,
 ⟨some 64, .cmp .eql (.t 63) (.c (Go.Value.int Go.IntKind.i64 0)), some (61, false)⟩,
 ⟨some 65, .pick (.t 61) (.c (Go.Value.bool true)) (.t 64), some (57, true)⟩,
 ⟨some 66, .pick (.t 57) (.t 65) (.c (Go.Value.bool false)), none⟩,
 ⟨some 67, .mov (.t 66), none⟩,
 ⟨some 68, .call 11 [] (.one (.sc .bool)), some (67, true)⟩,
 ⟨some 69, .pick (.t 67) (.t 68) (.c (Go.Value.bool false)), none⟩,
 ⟨some 2, .mov (.t 69), none⟩] [2]) .ret)))))))⟩
theorem L_BitioStuffs_e2 {R : Type} (L_few : Option Addr → Nat → Nat → Heap → (Bool → Heap → Option R) → Option R) (L_exampleHoldsq : (Bool → Option R) → Option R) (bitio_NewWriter : Heap → (Option Addr → Heap → Option R) → Option R) (L_write : Option Addr → Int → Int → Int → Heap → (Int → Heap → Option R) → Option R) (bitio_Writer_Bytes : Option Addr → Heap → (Option Addr → Nat → Nat → Heap → Option R) → Option R) (bitio_Writer_Len : Option Addr → Heap → (Int → Option R) → Option R) (L_BitioStuffs_l0 : (Option Addr → Heap → Option R) → Nat → Option Addr → Option Addr → Nat → Nat → Int → Int → Heap → Option R) (L_BitioStuffs_l1 : (Option Addr → Option Addr → Nat → Nat → Option R) → (Bool → Option R) → Nat → Option Addr → Option Addr → Nat → Nat → Option Addr → Nat → Nat → Int → Int → Heap → Option R) (L_BitioStuffs_p2 : Option Addr → Option Addr → Nat → Nat → Option Addr → Nat → Nat → Int → Int → Heap → (Option Addr → Option Addr → Nat → Nat → Option Addr → Nat → Nat → Int → Int → Option R) → (Bool → Option R) → Option R) (k : Nat) (p133 : Option Addr) (q134 : Option Addr) (l135 : Nat) (c136 : Nat) (q137 : Option Addr) (l138 : Nat) (c139 : Nat) (n140 : Int) (n141 : Int) (H : Heap) (K : Xit → Env → Heap → Option R) : evJ (L_BitioStuffs_Ct L_few L_exampleHoldsq bitio_NewWriter L_write bitio_Writer_Bytes bitio_Writer_Len) (L_BitioStuffs_Jt k L_BitioStuffs_l0 L_BitioStuffs_l1 L_BitioStuffs_p2) L_BitioStuffs_i2 (List.zip [3, 6, 26, 27, 28] [.pointer p133, .slice q134 l135 c136, .slice q137 l138 c139, .int .i64 n140, .int .i64 n141]) H (fun x e' H' => K x (clean e' ((⟨[3, 6, 26, 27, 28], [], [2]⟩ : Out).of x)) H') = L_BitioStuffs_p2_b k p133 q134 l135 c136 q137 l138 c139 n140 n141 H (fun p1095 q1096 l1097 c1098 q1099 l1100 c1101 n1102 n1103 => K .normal [(3, .pointer p1095), (6, .slice q1096 l1097 c1098), (26, .slice q1099 l1100 c1101), (27, .int .i64 n1102), (28, .int .i64 n1103)] H) (fun t1104 => K .ret [(2, .bool t1104)] H) := by kernel_rfl
theorem L_BitioStuffs_j2 {R : Type} (k : Nat) : JS Try.prog 70 (L_BitioStuffs_a2 R k k) [3, 6, 26, 27, 28] ⟨[3, 6, 26, 27, 28], [], [2]⟩ (sel [1, 1, 1, 1, 1, 0, 1, 0, 0, 1, 1, 0] (Try.f4.body.getD .skip)) :=
  piece_ok (nt := 70) (c := (sel [1, 1, 1, 1, 1, 0, 1, 0, 0, 1, 1, 0] (Try.f4.body.getD .skip))) (C := L_BitioStuffs_C R k) (an := An) (t := (.node (.seq (.reg [3, 6, 7, 8, 26, 27, 28] []) (.seq (.reg [3, 6, 26, 27, 28, 49] []) (.cond (.seq (.reg [2] []) .leaf) .leaf))))) (ic := L_BitioStuffs_i2) (L_BitioStuffs_S R k) (L_BitioStuffs_J R k) (by kernel_rfl) (And.intro True.intro (And.intro True.intro (And.intro (And.intro True.intro True.intro) True.intro))) (L_BitioStuffs_a2 R k k)
    (fun vals H K r h => by
      unfold L_BitioStuffs_a2 L_BitioStuffs_aa2 at h
      split at h <;> first | (cases h; done) | exact Eq.trans (L_BitioStuffs_e2 (L_few k) L_exampleHoldsq bitio_NewWriter (L_write k) (bitio_Writer_Bytes k) bitio_Writer_Len (L_BitioStuffs_l0 k) (L_BitioStuffs_l1 k) (L_BitioStuffs_p2 k) k _ _ _ _ _ _ _ _ _ H K) h)
theorem L_BitioStuffs_e1 {R : Type} (L_few : Option Addr → Nat → Nat → Heap → (Bool → Heap → Option R) → Option R) (L_exampleHoldsq : (Bool → Option R) → Option R) (bitio_NewWriter : Heap → (Option Addr → Heap → Option R) → Option R) (L_write : Option Addr → Int → Int → Int → Heap → (Int → Heap → Option R) → Option R) (bitio_Writer_Bytes : Option Addr → Heap → (Option Addr → Nat → Nat → Heap → Option R) → Option R) (bitio_Writer_Len : Option Addr → Heap → (Int → Option R) → Option R) (L_BitioStuffs_l0 : (Option Addr → Heap → Option R) → Nat → Option Addr → Option Addr → Nat → Nat → Int → Int → Heap → Option R) (L_BitioStuffs_l1 : (Option Addr → Option Addr → Nat → Nat → Option R) → (Bool → Option R) → Nat → Option Addr → Option Addr → Nat → Nat → Option Addr → Nat → Nat → Int → Int → Heap → Option R) (L_BitioStuffs_p2 : Option Addr → Option Addr → Nat → Nat → Option Addr → Nat → Nat → Int → Int → Heap → (Option Addr → Option Addr → Nat → Nat → Option Addr → Nat → Nat → Int → Int → Option R) → (Bool → Option R) → Option R) (k n : Nat) (p124 : Option Addr) (q125 : Option Addr) (l126 : Nat) (c127 : Nat) (q128 : Option Addr) (l129 : Nat) (c130 : Nat) (n131 : Int) (n132 : Int) (H : Heap) (K : Xit → Env → Heap → Option R) : evJ (L_BitioStuffs_Ct L_few L_exampleHoldsq bitio_NewWriter L_write bitio_Writer_Bytes bitio_Writer_Len) (L_BitioStuffs_Jt k L_BitioStuffs_l0 L_BitioStuffs_l1 L_BitioStuffs_p2) L_BitioStuffs_i1 (List.zip [3, 6, 26, 27, 28] [.pointer p124, .slice q125 l126 c127, .slice q128 l129 c130, .int .i64 n131, .int .i64 n132]) H (fun x e' H' => match x with | .normal => L_BitioStuffs_aa1 L_BitioStuffs_l1 n ((clean e' [3, 6, 26, 27, 28]).map (·.2)) H' K | x => K x (clean e' ((⟨[], [(2, [3, 6])], [2]⟩ : Out).of x)) H') = L_BitioStuffs_l1_b L_BitioStuffs_p2 (L_BitioStuffs_l1 (fun p1090 q1091 l1092 c1093 => K (.exit 2) [(3, .pointer p1090), (6, .slice q1091 l1092 c1093)] H) (fun t1094 => K .ret [(2, .bool t1094)] H) n) (fun p1090 q1091 l1092 c1093 => K (.exit 2) [(3, .pointer p1090), (6, .slice q1091 l1092 c1093)] H) (fun t1094 => K .ret [(2, .bool t1094)] H) k p124 q125 l126 c127 q128 l129 c130 n131 n132 H := by kernel_rfl
theorem L_BitioStuffs_j1 {R : Type} (k : Nat) : JS Try.prog 70 (L_BitioStuffs_a1 R k k) [3, 6, 26, 27, 28] ⟨[], [(2, [3, 6])], [2]⟩ (.loop (sel [1, 1, 1, 1, 1, 0, 1, 0, 0] (Try.f4.body.getD .skip))) :=
  loop_ok (nt := 70) (c := (sel [1, 1, 1, 1, 1, 0, 1, 0, 0] (Try.f4.body.getD .skip))) (C := L_BitioStuffs_C R k) (an := An) (t := (.seq (.reg [3, 6, 26, 27, 28, 29] []) (.seq (.cond .leaf .leaf) (.seq (.opq 2 [3, 6, 26, 27, 28] ⟨[3, 6, 26, 27, 28], [], [2]⟩ (.node (.seq (.reg [3, 6, 7, 8, 26, 27, 28] []) (.seq (.reg [3, 6, 26, 27, 28, 49] []) (.cond (.seq (.reg [2] []) .leaf) .leaf))))) (.reg [3, 6, 26, 27, 28] []))))) (ic := L_BitioStuffs_i1) (L_BitioStuffs_S R k) (L_BitioStuffs_J R k) (by kernel_rfl) (And.intro True.intro (And.intro (And.intro True.intro True.intro) (And.intro (L_BitioStuffs_j2 k) True.intro))) (L_BitioStuffs_a1 R k) (fun vals H K => by unfold L_BitioStuffs_a1 L_BitioStuffs_aa1; split <;> rfl)
    (fun n vals H K r h => by
      unfold L_BitioStuffs_a1 L_BitioStuffs_aa1 at h
      split at h <;> first | (cases h; done) | exact Eq.trans (L_BitioStuffs_e1 (L_few k) L_exampleHoldsq bitio_NewWriter (L_write k) (bitio_Writer_Bytes k) bitio_Writer_Len (L_BitioStuffs_l0 k) (L_BitioStuffs_l1 k) (L_BitioStuffs_p2 k) k n _ _ _ _ _ _ _ _ _ H K) h) k
theorem L_BitioStuffs_e0 {R : Type} (L_few : Option Addr → Nat → Nat → Heap → (Bool → Heap → Option R) → Option R) (L_exampleHoldsq : (Bool → Option R) → Option R) (bitio_NewWriter : Heap → (Option Addr → Heap → Option R) → Option R) (L_write : Option Addr → Int → Int → Int → Heap → (Int → Heap → Option R) → Option R) (bitio_Writer_Bytes : Option Addr → Heap → (Option Addr → Nat → Nat → Heap → Option R) → Option R) (bitio_Writer_Len : Option Addr → Heap → (Int → Option R) → Option R) (L_BitioStuffs_l0 : (Option Addr → Heap → Option R) → Nat → Option Addr → Option Addr → Nat → Nat → Int → Int → Heap → Option R) (L_BitioStuffs_l1 : (Option Addr → Option Addr → Nat → Nat → Option R) → (Bool → Option R) → Nat → Option Addr → Option Addr → Nat → Nat → Option Addr → Nat → Nat → Int → Int → Heap → Option R) (L_BitioStuffs_p2 : Option Addr → Option Addr → Nat → Nat → Option Addr → Nat → Nat → Int → Int → Heap → (Option Addr → Option Addr → Nat → Nat → Option Addr → Nat → Nat → Int → Int → Option R) → (Bool → Option R) → Option R) (k n : Nat) (p99 : Option Addr) (q100 : Option Addr) (l101 : Nat) (c102 : Nat) (n103 : Int) (n104 : Int) (H : Heap) (K : Xit → Env → Heap → Option R) : evJ (L_BitioStuffs_Ct L_few L_exampleHoldsq bitio_NewWriter L_write bitio_Writer_Bytes bitio_Writer_Len) (L_BitioStuffs_Jt k L_BitioStuffs_l0 L_BitioStuffs_l1 L_BitioStuffs_p2) L_BitioStuffs_i0 (List.zip [3, 14, 15, 16] [.pointer p99, .slice q100 l101 c102, .int .i64 n103, .int .i64 n104]) H (fun x e' H' => match x with | .normal => L_BitioStuffs_aa0 L_BitioStuffs_l0 n ((clean e' [3, 14, 15, 16]).map (·.2)) H' K | x => K x (clean e' ((⟨[], [(0, [3])], []⟩ : Out).of x)) H') = L_BitioStuffs_l0_b L_write (L_BitioStuffs_l0 (fun p1089 H => K (.exit 0) [(3, .pointer p1089)] H) n) (fun p1089 H => K (.exit 0) [(3, .pointer p1089)] H) k p99 q100 l101 c102 n103 n104 H := by kernel_rfl
theorem L_BitioStuffs_j0 {R : Type} (k : Nat) : JS Try.prog 70 (L_BitioStuffs_a0 R k k) [3, 14, 15, 16] ⟨[], [(0, [3])], []⟩ (.loop (sel [1, 1, 1, 0, 1, 0, 0] (Try.f4.body.getD .skip))) :=
  loop_ok (nt := 70) (c := (sel [1, 1, 1, 0, 1, 0, 0] (Try.f4.body.getD .skip))) (C := L_BitioStuffs_C R k) (an := An) (t := (.seq (.reg [3, 14, 15, 16, 17] []) (.seq (.cond .leaf .leaf) (.seq (.node (.seq (.reg [3, 5, 14, 15, 16] []) (.reg [3, 14, 15, 16] []))) (.reg [3, 14, 15, 16] []))))) (ic := L_BitioStuffs_i0) (L_BitioStuffs_S R k) (L_BitioStuffs_J R k) (by kernel_rfl) (And.intro True.intro (And.intro (And.intro True.intro True.intro) (And.intro (And.intro True.intro True.intro) True.intro))) (L_BitioStuffs_a0 R k) (fun vals H K => by unfold L_BitioStuffs_a0 L_BitioStuffs_aa0; split <;> rfl)
    (fun n vals H K r h => by
      unfold L_BitioStuffs_a0 L_BitioStuffs_aa0 at h
      split at h <;> first | (cases h; done) | exact Eq.trans (L_BitioStuffs_e0 (L_few k) L_exampleHoldsq bitio_NewWriter (L_write k) (bitio_Writer_Bytes k) bitio_Writer_Len (L_BitioStuffs_l0 k) (L_BitioStuffs_l1 k) (L_BitioStuffs_p2 k) k n _ _ _ _ _ _ H K) h) k
def L_BitioStuffs_ca {R : Type} (f : Option Addr → Nat → Nat → Heap → (Bool → Heap → Option R) → Option R) (args : List Value) (H : Heap) (K : Value → Heap → Option R) : Option R :=
  match args with
  | [.slice q91 l92 c93] => f q91 l92 c93 H (fun t1105 H => K (.bool t1105) H)
  | _ => none
def L_BitioStuffs_c (R : Type) (k : Nat) (args : List Value) (H : Heap) (K : Value → Heap → Option R) : Option R := L_BitioStuffs_ca (L_BitioStuffs k) args H K
theorem L_BitioStuffs_e {R : Type} (L_few : Option Addr → Nat → Nat → Heap → (Bool → Heap → Option R) → Option R) (L_exampleHoldsq : (Bool → Option R) → Option R) (bitio_NewWriter : Heap → (Option Addr → Heap → Option R) → Option R) (L_write : Option Addr → Int → Int → Int → Heap → (Int → Heap → Option R) → Option R) (bitio_Writer_Bytes : Option Addr → Heap → (Option Addr → Nat → Nat → Heap → Option R) → Option R) (bitio_Writer_Len : Option Addr → Heap → (Int → Option R) → Option R) (L_BitioStuffs_l0 : (Option Addr → Heap → Option R) → Nat → Option Addr → Option Addr → Nat → Nat → Int → Int → Heap → Option R) (L_BitioStuffs_l1 : (Option Addr → Option Addr → Nat → Nat → Option R) → (Bool → Option R) → Nat → Option Addr → Option Addr → Nat → Nat → Option Addr → Nat → Nat → Int → Int → Heap → Option R) (L_BitioStuffs_p2 : Option Addr → Option Addr → Nat → Nat → Option Addr → Nat → Nat → Int → Int → Heap → (Option Addr → Option Addr → Nat → Nat → Option Addr → Nat → Nat → Int → Int → Option R) → (Bool → Option R) → Option R) (k : Nat) (q91 : Option Addr) (l92 : Nat) (c93 : Nat) (H : Heap) (K : Value → Heap → Option R) : evF (L_BitioStuffs_Ct L_few L_exampleHoldsq bitio_NewWriter L_write bitio_Writer_Bytes bitio_Writer_Len) (L_BitioStuffs_Jt k L_BitioStuffs_l0 L_BitioStuffs_l1 L_BitioStuffs_p2) L_BitioStuffs_f [.slice q91 l92 c93] H K = L_BitioStuffs_b L_few L_exampleHoldsq bitio_NewWriter L_BitioStuffs_l0 bitio_Writer_Bytes L_BitioStuffs_l1 bitio_Writer_Len k q91 l92 c93 H (fun t1105 H => K (.bool t1105) H) := by kernel_rfl
theorem L_BitioStuffs_cs (R : Type) (k : Nat) : ∀ args H K r, L_BitioStuffs_c R k args H K = some r → ∃ v H', Tri Try.prog 4 args H v H' ∧ K v H' = some r := by
  intro args H K r h
  unfold L_BitioStuffs_c L_BitioStuffs_ca at h
  split at h
  · exact evF_ok (C := L_BitioStuffs_C R k) (an := An) (t := L_BitioStuffs_at) (fn := Try.f4) (c := (Try.f4.body.getD .skip)) (ifn := L_BitioStuffs_f) (L_BitioStuffs_S R k) (L_BitioStuffs_J R k) Try.func4 (by kernel_rfl) (by kernel_rfl) (And.intro True.intro (And.intro (And.intro True.intro (And.intro (And.intro True.intro True.intro) True.intro)) (And.intro True.intro (And.intro (And.intro True.intro (L_BitioStuffs_j0 k)) (And.intro True.intro (And.intro (And.intro True.intro (L_BitioStuffs_j1 k)) (And.intro True.intro True.intro))))))) rfl (Eq.trans (L_BitioStuffs_e (L_few k) L_exampleHoldsq bitio_NewWriter (L_write k) (bitio_Writer_Bytes k) bitio_Writer_Len (L_BitioStuffs_l0 k) (L_BitioStuffs_l1 k) (L_BitioStuffs_p2 k) k _ _ _ H K) h)
  · cases h
end Go.Proofs.Ytiapgcgpdndkiaa.Sh
