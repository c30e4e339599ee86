/- Lean functions that stand for Go's, over an explicit heap, and the proofs that they do (written by this claim's program shallow.py). -/
import Derived.Test.YtiapgcgpdndkiaaSh0
import Derived.Test.YtiapgcgpdndkiaaSh2
import Derived.Test.YtiapgcgpdndkiaaSh4
import Derived.Test.YtiapgcgpdndkiaaSh5
import Derived.Test.YtiapgcgpdndkiaaSh7
set_option maxRecDepth 100000
set_option linter.unusedVariables false
set_option linter.unusedSimpArgs false
namespace Go.Proofs.Ytiapgcgpdndkiaa.Sh
open Go.Proofs.Ytiapgcgpdndkiaa.FW
/-! ### L_BitioWrites: function 3 -/
def L_BitioWrites_p1_b {R : Type} (L_write : Option Addr → Int → Int → Int → Heap → (Int → Heap → Option R) → Option R) (L_writeRef : Option Addr → Int → Int → Int → Heap → (Int → Heap → Option R) → Option R) (bitio_Writer_Len : Option Addr → Heap → (Int → Option R) → Option R) (R09_Writer_Len : Option Addr → Heap → (Int → Option R) → Option R) (k : Nat) (p18 : Option Addr) (p19 : Option Addr) (q20 : Option Addr) (l21 : Nat) (c22 : Nat) (n23 : Int) (n24 : Int) (H : Heap) (KN : Option Addr → Option Addr → Option Addr → Nat → Nat → Int → Int → Heap → Option R) (KR : Bool → Heap → Option R) : Option R :=
hidx q20 l21 n24 3 fun p25 =>
ldI .i64 H (pad p25 0) fun n26 =>
ldI .i64 H (pad p25 1) fun n27 =>
ldI .i64 H (pad p25 2) fun n28 =>
hal H [.int .i64 0, .int .i64 0, .int .i64 0] fun p29 H30 =>
hst H30 p29 [.int .i64 n26, .int .i64 n27, .int .i64 n28] fun H31 =>
hfrz H31 p29 fun H32 =>
ldI .i64 H32 (pad p29 0) fun n33 =>
ldI .i64 H32 (pad p29 1) fun n34 =>
ldI .i64 H32 (pad p29 2) fun n35 =>
L_write p18 n33 n34 n35 H32 fun n36 H37 =>
bif isRo H32 p29 then (ldI .i64 H32 (pad p29 0) fun n38 =>
ldI .i64 H32 (pad p29 1) fun n39 =>
ldI .i64 H32 (pad p29 2) fun n40 =>
L_writeRef p19 n38 n39 n40 H37 fun n41 H42 =>
bif (n36 != n41) then (KR false H42)
 else (bitio_Writer_Len p18 H42 fun n43 =>
R09_Writer_Len p19 H42 fun n44 =>
bif (n43 != n44) then (KR false H42)
 else (KN p18 p19 q20 l21 c22 n23 n24 H42)))
 else none
def L_BitioWrites_p1 {R : Type} (k : Nat) (p18 : Option Addr) (p19 : Option Addr) (q20 : Option Addr) (l21 : Nat) (c22 : Nat) (n23 : Int) (n24 : Int) (H : Heap) (KN : Option Addr → Option Addr → Option Addr → Nat → Nat → Int → Int → Heap → Option R) (KR : Bool → Heap → Option R) : Option R := L_BitioWrites_p1_b (L_write k) (L_writeRef k) bitio_Writer_Len (R09_Writer_Len k) k p18 p19 q20 l21 c22 n23 n24 H KN KR

def L_BitioWrites_l0_b {R : Type} (L_BitioWrites_p1 : Option Addr → Option Addr → Option Addr → Nat → Nat → Int → Int → Heap → (Option Addr → Option Addr → Option Addr → Nat → Nat → Int → Int → Heap → Option R) → (Bool → Heap → Option R) → Option R) (rec : Option Addr → Option Addr → Option Addr → Nat → Nat → Int → Int → Heap → Option R) (KE0 : Option Addr → Option Addr → Heap → Option R) (KR : Bool → Heap → Option R) (k : Nat) (p11 : Option Addr) (p12 : Option Addr) (q13 : Option Addr) (l14 : Nat) (c15 : Nat) (n16 : Int) (n17 : Int) (H : Heap) : Option R :=
bif decide (n17 < n16) then (L_BitioWrites_p1 p11 p12 q13 l14 c15 n16 n17 H (fun p53 p54 q55 l56 c57 n58 n59 H60 =>
rec p53 p54 q55 l56 c57 n58 (IntKind.wrap .i64 (n59 + 1)) H60) (fun t61 H62 =>
KR t61 H62))
 else (KE0 p11 p12 H)
def L_BitioWrites_l0 {R : Type} (k : Nat) (KE0 : Option Addr → Option Addr → Heap → Option R) (KR : Bool → Heap → Option R) : Nat → Option Addr → Option Addr → Option Addr → Nat → Nat → Int → Int → Heap → Option R
  | 0, _, _, _, _, _, _, _, _ => none
  | n + 1, p11, p12, q13, l14, c15, n16, n17, H => L_BitioWrites_l0_b (L_BitioWrites_p1 k) (L_BitioWrites_l0 k KE0 KR n) KE0 KR k p11 p12 q13 l14 c15 n16 n17 H

def L_BitioWrites_b {R : Type} (L_few : Option Addr → Nat → Nat → Heap → (Bool → Heap → Option R) → Option R) (L_exampleHoldsq : (Bool → Option R) → Option R) (bitio_NewWriter : Heap → (Option Addr → Heap → Option R) → Option R) (R09_NewWriter : Heap → (Option Addr → Heap → Option R) → Option R) (L_BitioWrites_l0 : (Option Addr → Option Addr → Heap → Option R) → (Bool → Heap → Option R) → Nat → Option Addr → Option Addr → Option Addr → Nat → Nat → Int → Int → Heap → Option R) (bitio_Writer_Bytes : Option Addr → Heap → (Option Addr → Nat → Nat → Heap → Option R) → Option R) (R09_Writer_Bytes : Option Addr → Heap → (Option Addr → Nat → Nat → Heap → Option R) → Option R) (R09_SameBytes : Option Addr → Nat → Nat → Option Addr → Nat → Nat → Heap → (Bool → Option R) → Option R) (k : Nat) (q1 : Option Addr) (l2 : Nat) (c3 : Nat) (H : Heap) (K : Bool → Heap → Option R) : Option R :=
L_few q1 l2 c3 H fun t4 H5 =>
bif (!t4) then (L_exampleHoldsq fun t6 =>
K t6 H5)
 else (bitio_NewWriter H5 fun p7 H8 =>
R09_NewWriter H8 fun p9 H10 =>
L_BitioWrites_l0 (fun p66 p67 H68 =>
bitio_Writer_Bytes p66 H68 fun q69 l70 c71 H72 =>
R09_Writer_Bytes p67 H72 fun q73 l74 c75 H76 =>
R09_SameBytes q69 l70 c71 q73 l74 c75 H76 fun t77 =>
bif t77 then (bitio_Writer_Bytes p66 H76 fun q78 l79 c80 H81 =>
R09_Writer_Bytes p67 H81 fun q82 l83 c84 H85 =>
R09_SameBytes q78 l79 c80 q82 l83 c84 H85 fun t86 =>
bif t86 then (L_exampleHoldsq fun t87 =>
K t87 H85)
 else (K false H85))
 else (K false H76)) (fun t88 H89 =>
K t88 H89) k p7 p9 q1 l2 c3 ((l2 : Nat) : Int) 0 H10)

def L_BitioWrites {R : Type} (k : Nat) (q1 : Option Addr) (l2 : Nat) (c3 : Nat) (H : Heap) (K : Bool → Heap → Option R) : Option R := L_BitioWrites_b (L_few k) L_exampleHoldsq bitio_NewWriter R09_NewWriter (L_BitioWrites_l0 k) (bitio_Writer_Bytes k) (R09_Writer_Bytes k) R09_SameBytes k q1 l2 c3 H K

def L_BitioWrites_Ct {R : Type} (L_few : Option Addr → Nat → Nat → Heap → (Bool → Heap → Option R) → Option R) (L_exampleHoldsq : (Bool → Option R) → Option R) (bitio_NewWriter : Heap → (Option Addr → Heap → Option R) → Option R) (R09_NewWriter : Heap → (Option Addr → Heap → Option R) → Option R) (L_write : Option Addr → Int → Int → Int → Heap → (Int → Heap → Option R) → Option R) (L_writeRef : Option Addr → Int → Int → Int → Heap → (Int → Heap → Option R) → Option R) (bitio_Writer_Len : Option Addr → Heap → (Int → Option R) → Option R) (R09_Writer_Len : Option Addr → Heap → (Int → Option R) → Option R) (bitio_Writer_Bytes : Option Addr → Heap → (Option Addr → Nat → Nat → Heap → Option R) → Option R) (R09_Writer_Bytes : Option Addr → Heap → (Option Addr → Nat → Nat → Heap → Option R) → Option R) (R09_SameBytes : Option Addr → Nat → Nat → Option Addr → Nat → Nat → Heap → (Bool → Option R) → Option R) : Tab R := tcons 10 (L_few_ca L_few) <| tcons 11 (L_exampleHoldsq_ca L_exampleHoldsq) <| tcons 12 (bitio_NewWriter_ca bitio_NewWriter) <| tcons 13 (R09_NewWriter_ca R09_NewWriter) <| tcons 14 (L_write_ca L_write) <| tcons 15 (L_writeRef_ca L_writeRef) <| tcons 16 (bitio_Writer_Len_ca bitio_Writer_Len) <| tcons 17 (R09_Writer_Len_ca R09_Writer_Len) <| tcons 19 (bitio_Writer_Bytes_ca bitio_Writer_Bytes) <| tcons 20 (R09_Writer_Bytes_ca R09_Writer_Bytes) <| tcons 18 (R09_SameBytes_ca R09_SameBytes) <| fun _ _ _ _ => none
def L_BitioWrites_C (R : Type) (k : Nat) : Tab R := L_BitioWrites_Ct (L_few k) L_exampleHoldsq bitio_NewWriter R09_NewWriter (L_write k) (L_writeRef k) bitio_Writer_Len (R09_Writer_Len k) (bitio_Writer_Bytes k) (R09_Writer_Bytes k) R09_SameBytes
theorem L_BitioWrites_S (R : Type) (k : Nat) : CSound Try.prog (L_BitioWrites_C R k) := csound_cons (L_few_cs R k) <| csound_cons (L_exampleHoldsq_cs R k) <| csound_cons (bitio_NewWriter_cs R k) <| csound_cons (R09_NewWriter_cs R k) <| csound_cons (L_write_cs R k) <| csound_cons (L_writeRef_cs R k) <| csound_cons (bitio_Writer_Len_cs R k) <| csound_cons (R09_Writer_Len_cs R k) <| csound_cons (bitio_Writer_Bytes_cs R k) <| csound_cons (R09_Writer_Bytes_cs R k) <| csound_cons (R09_SameBytes_cs R k) <| csound_nil
def L_BitioWrites_aa0 {R : Type} (f : (Option Addr → Option Addr → Heap → Option R) → (Bool → Heap → Option R) → Nat → Option Addr → Option Addr → Option Addr → Nat → Nat → Int → Int → Heap → Option R) (n : Nat) (vals : List Value) (H : Heap) (K : Xit → Env → Heap → Option R) : Option R :=
  match vals with
  | [.pointer p11, .pointer p12, .slice q13 l14 c15, .int .i64 n16, .int .i64 n17] => f (fun p1077 p1078 H => K (.exit 0) [(3, .pointer p1077), (4, .pointer p1078)] H) (fun t1079 H => K .ret [(2, .bool t1079)] H) n p11 p12 q13 l14 c15 n16 n17 H
  | _ => none
def L_BitioWrites_a0 (R : Type) (k n : Nat) (vals : List Value) (H : Heap) (K : Xit → Env → Heap → Option R) : Option R := L_BitioWrites_aa0 (L_BitioWrites_l0 k) n vals H K
def L_BitioWrites_aa1 {R : Type} (f : Option Addr → Option Addr → Option Addr → Nat → Nat → Int → Int → Heap → (Option Addr → Option Addr → Option Addr → Nat → Nat → Int → Int → Heap → Option R) → (Bool → Heap → Option R) → Option R) (n : Nat) (vals : List Value) (H : Heap) (K : Xit → Env → Heap → Option R) : Option R :=
  match vals with
  | [.pointer p18, .pointer p19, .slice q20 l21 c22, .int .i64 n23, .int .i64 n24] => f p18 p19 q20 l21 c22 n23 n24 H (fun p1080 p1081 q1082 l1083 c1084 n1085 n1086 H => K .normal [(3, .pointer p1080), (4, .pointer p1081), (13, .slice q1082 l1083 c1084), (14, .int .i64 n1085), (15, .int .i64 n1086)] H) (fun t1087 H => K .ret [(2, .bool t1087)] H)
  | _ => none
def L_BitioWrites_a1 (R : Type) (k n : Nat) (vals : List Value) (H : Heap) (K : Xit → Env → Heap → Option R) : Option R := L_BitioWrites_aa1 (L_BitioWrites_p1 k) n vals H K
def L_BitioWrites_Jt {R : Type} (k : Nat) (L_BitioWrites_l0 : (Option Addr → Option Addr → Heap → Option R) → (Bool → Heap → Option R) → Nat → Option Addr → Option Addr → Option Addr → Nat → Nat → Int → Int → Heap → Option R) (L_BitioWrites_p1 : Option Addr → Option Addr → Option Addr → Nat → Nat → Int → Int → Heap → (Option Addr → Option Addr → Option Addr → Nat → Nat → Int → Int → Heap → Option R) → (Bool → Heap → Option R) → Option R) : JTab R := tcons 0 (L_BitioWrites_aa0 L_BitioWrites_l0 k) <| tcons 1 (L_BitioWrites_aa1 L_BitioWrites_p1 k) <| fun _ _ _ _ => none
def L_BitioWrites_J (R : Type) (k : Nat) : JTab R := L_BitioWrites_Jt k (L_BitioWrites_l0 k) (L_BitioWrites_p1 k)
def L_BitioWrites_at : AT := (.seq (.reg [0] []) (.seq (.seq (.reg [0, 9] []) (.cond (.seq (.reg [2] []) .leaf) .leaf)) (.seq (.reg [0, 3, 4] []) (.seq (.seq (.reg [3, 4, 13, 14, 15] []) (.node (.opq 0 [3, 4, 13, 14, 15] ⟨[], [(0, [3, 4])], [2]⟩ (.node (.seq (.reg [3, 4, 13, 14, 15, 16] []) (.seq (.cond .leaf .leaf) (.seq (.opq 1 [3, 4, 13, 14, 15] ⟨[3, 4, 13, 14, 15], [], [2]⟩ (.node (.seq (.reg [3, 4, 6, 13, 14, 15] []) (.seq (.frz 6 (.reg [3, 4, 13, 14, 15, 32] [[], [], [0, 1], [], [], [0, 1, 2, 3, 4], [0, 1, 2, 3, 4, 5], [0, 1, 2, 3, 4, 5, 6], [0, 1, 2, 3, 4, 5, 6, 7], [0, 1, 2, 3, 4, 5, 6, 7, 8], [0, 1, 2, 3, 4, 5, 6, 7], [0, 1, 2, 3, 4, 5, 6, 7, 8, 9, 10], [0, 1, 2, 3, 4, 5, 6, 7, 8, 9, 10, 11], [0, 1, 2, 3, 4, 5, 6, 7, 8, 9, 10, 11, 12]])) (.cond (.seq (.reg [2] []) .leaf) .leaf))))) (.reg [3, 4, 13, 14, 15] [])))))))) (.seq (.reg [2] []) .leaf)))))
def L_BitioWrites_i1 : IC := (.block 1 (.seq (.reg [⟨some 17, .ids 3 (.t 13) (.t 15), none⟩,
 ⟨some 18, .ld (.agg [(.int .i64), (.int .i64), (.int .i64)]) (.t 17), none⟩,
 ⟨some 6, .alc [.int .i64 0, .int .i64 0, .int .i64 0], none⟩,
 ⟨none, .st 3 (.t 6) (.t 18), none⟩] [3, 4, 6, 13, 14, 15]) (.seq (.frz 6 (.reg [⟨some 19, .mov (.t 3), none⟩,
 ⟨some 20, .ld (.agg [(.int .i64), (.int .i64), (.int .i64)]) (.t 6), none⟩,
 ⟨some 21, .call 14 [(.t 19), (.t 20)] (.one (.sc (.int .i64))), none⟩,
 ⟨some 22, .mov (.t 4), none⟩,
 ⟨some 23, .ldr (.agg [(.int .i64), (.int .i64), (.int .i64)]) (.t 6), none⟩,
 ⟨some 24, .call 15 [(.t 22), (.t 23)] (.one (.sc (.int .i64))), none⟩,
 ⟨some 25, .cmp .neq (.t 21) (.t 24), none⟩,
 ⟨some 26, .mov (.t 25), none⟩,
 ⟨some 27, .mov (.t 3), some (26, false)⟩,
 ⟨some 28, .call 16 [(.t 27)] (.one (.sc (.int .i64))), some (26, false)⟩,
 ⟨some 29, .mov (.t 4), some (26, false)⟩,
 ⟨some 30, .call 17 [(.t 29)] (.one (.sc (.int .i64))), some (26, false)⟩,
 ⟨some 31, .cmp .neq (.t 28) (.t 30), some (26, false)⟩,
 ⟨some 32, .pick (.t 26) (.c (Go.Value.bool true)) (.t 31), none⟩] [3, 4, 13, 14, 15, 32])) (.cond (.t 32) (.seq (.reg [⟨some 2, .mov (.c (Go.Value.bool false)), none⟩] [2]) .ret) .skip))))
def L_BitioWrites_i0 : IC := (.seq (.reg [⟨some 16, .cmp .lss (.t 15) (.t 14), none⟩] [3, 4, 13, 14, 15, 16]) (.seq (.cond (.t 16) .skip (.exit 0)) (.seq (.opq 1 [3, 4, 13, 14, 15] L_BitioWrites_i1) (.reg [⟨some 33, .bin .add .i64 (.t 15) (.c (Go.Value.int Go.IntKind.i64 1)), none⟩,
 ⟨some 15, .mov (.t 33), none⟩] [3, 4, 13, 14, 15]))))
def L_BitioWrites_f : IFn := ⟨49, [.t 2], (.seq (.reg [⟨some 2, .mov (.c (Go.Value.bool false)), none⟩] [0]) (.seq (.seq (.reg [⟨some 7, .mov (.t 0), none⟩,
 ⟨some 8, .call 10 [(.t 7)] (.one (.sc .bool)), none⟩,
 ⟨some 9, .lnot (.t 8), none⟩] [0, 9]) (.cond (.t 9) (.seq (.reg [⟨some 10, .call 11 [] (.one (.sc .bool)), none⟩,
 ⟨some 2, .mov (.t 10), none⟩] [2]) .ret) .skip)) (.seq (.reg [⟨some 11, .call 12 [] (.one (.sc .ptr)), none⟩,
 ⟨some 12, .call 13 [] (.one (.sc .ptr)), none⟩,
 ⟨some 3, .mov (.t 11), none⟩,
 ⟨some 4, .mov (.t 12), none⟩] [0, 3, 4]) (.seq (.seq (.reg [⟨some 13, .mov (.t 0), none⟩,
 ⟨some 14, .len false (.t 13), none⟩,
 ⟨some 15, .mov (.c (Go.Value.int Go.IntKind.i64 0)), none⟩] [3, 4, 13, 14, 15]) (.block 0 (.opq 0 [3, 4, 13, 14, 15] (.loop L_BitioWrites_i0)))) (.seq (.reg [⟨some 34, .mov (.t 3), none⟩,
 ⟨some 35, .call 19 [(.t 34)] (.one (.sc .slc)), none⟩,
 ⟨some 36, .mov (.t 4), none⟩,
 ⟨some 37, .call 20 [(.t 36)] (.one (.sc .slc)), none⟩,
 ⟨some 38, .call 18 [(.t 35), (.t 37)] (.one (.sc .bool)), none⟩,
 ⟨some 39, .mov (.t 38), none⟩,
 ⟨some 40, .mov (.t 3), some (39, true)⟩,
 ⟨some 41, .call 19 [(.t 40)] (.one (.sc .slc)), some (39, true)⟩,
 ⟨some 42, .mov (.t 4), some (39, true)⟩,
 ⟨some 43, .call 20 [(.t 42)] (.one (.sc .slc)), some (39, true)⟩,
 ⟨some 44, .call 18 [(.t 41), (.t 43)] (.one (.sc .bool)), some (39, true)⟩,
 ⟨some 45, .pick (.t 39) (.t 44) (.c (Go.Value.bool false)), none⟩,
 ⟨some 46, .mov (.t 45), none⟩,
 ⟨some 47, .call 11 [] (.one (.sc .bool)), some (46, true)⟩,
 ⟨some 48, .pick (.t 46) (.t 47) (.c (Go.Value.bool false)), none⟩,
 ⟨some 2, .mov (.t 48), none⟩] [2]) .ret)))))⟩
theorem L_BitioWrites_e1 {R : Type} (L_few : Option Addr → Nat → Nat → Heap → (Bool → Heap → Option R) → Option R) (L_exampleHoldsq : (Bool → Option R) → Option R) (bitio_NewWriter : Heap → (Option Addr → Heap → Option R) → Option R) (R09_NewWriter : Heap → (Option Addr → Heap → Option R) → Option R) (L_write : Option Addr → Int → Int → Int → Heap → (Int → Heap → Option R) → Option R) (L_writeRef : Option Addr → Int → Int → Int → Heap → (Int → Heap → Option R) → Option R) (bitio_Writer_Len : Option Addr → Heap → (Int → Option R) → Option R) (R09_Writer_Len : Option Addr → Heap → (Int → Option R) → Option R) (bitio_Writer_Bytes : Option Addr → Heap → (Option Addr → Nat → Nat → Heap → Option R) → Option R) (R09_Writer_Bytes : Option Addr → Heap → (Option Addr → Nat → Nat → Heap → Option R) → Option R) (R09_SameBytes : Option Addr → Nat → Nat → Option Addr → Nat → Nat → Heap → (Bool → Option R) → Option R) (L_BitioWrites_l0 : (Option Addr → Option Addr → Heap → Option R) → (Bool → Heap → Option R) → Nat → Option Addr → Option Addr → Option Addr → Nat → Nat → Int → Int → Heap → Option R) (L_BitioWrites_p1 : Option Addr → Option Addr → Option Addr → Nat → Nat → Int → Int → Heap → (Option Addr → Option Addr → Option Addr → Nat → Nat → Int → Int → Heap → Option R) → (Bool → Heap → Option R) → Option R) (k : Nat) (p18 : Option Addr) (p19 : Option Addr) (q20 : Option Addr) (l21 : Nat) (c22 : Nat) (n23 : Int) (n24 : Int) (H : Heap) (K : Xit → Env → Heap → Option R) : evJ (L_BitioWrites_Ct L_few L_exampleHoldsq bitio_NewWriter R09_NewWriter L_write L_writeRef bitio_Writer_Len R09_Writer_Len bitio_Writer_Bytes R09_Writer_Bytes R09_SameBytes) (L_BitioWrites_Jt k L_BitioWrites_l0 L_BitioWrites_p1) L_BitioWrites_i1 (List.zip [3, 4, 13, 14, 15] [.pointer p18, .pointer p19, .slice q20 l21 c22, .int .i64 n23, .int .i64 n24]) H (fun x e' H' => K x (clean e' ((⟨[3, 4, 13, 14, 15], [], [2]⟩ : Out).of x)) H') = L_BitioWrites_p1_b L_write L_writeRef bitio_Writer_Len R09_Writer_Len k p18 p19 q20 l21 c22 n23 n24 H (fun p1080 p1081 q1082 l1083 c1084 n1085 n1086 H => K .normal [(3, .pointer p1080), (4, .pointer p1081), (13, .slice q1082 l1083 c1084), (14, .int .i64 n1085), (15, .int .i64 n1086)] H) (fun t1087 H => K .ret [(2, .bool t1087)] H) := by kernel_rfl
theorem L_BitioWrites_j1 {R : Type} (k : Nat) : JS Try.prog 49 (L_BitioWrites_a1 R k k) [3, 4, 13, 14, 15] ⟨[3, 4, 13, 14, 15], [], [2]⟩ (sel [1, 1, 1, 0, 1, 0, 0, 1, 1, 0] (Try.f3.body.getD .skip)) :=
  piece_ok (nt := 49) (c := (sel [1, 1, 1, 0, 1, 0, 0, 1, 1, 0] (Try.f3.body.getD .skip))) (C := L_BitioWrites_C R k) (an := An) (t := (.node (.seq (.reg [3, 4, 6, 13, 14, 15] []) (.seq (.frz 6 (.reg [3, 4, 13, 14, 15, 32] [[], [], [0, 1], [], [], [0, 1, 2, 3, 4], [0, 1, 2, 3, 4, 5], [0, 1, 2, 3, 4, 5, 6], [0, 1, 2, 3, 4, 5, 6, 7], [0, 1, 2, 3, 4, 5, 6, 7, 8], [0, 1, 2, 3, 4, 5, 6, 7], [0, 1, 2, 3, 4, 5, 6, 7, 8, 9, 10], [0, 1, 2, 3, 4, 5, 6, 7, 8, 9, 10, 11], [0, 1, 2, 3, 4, 5, 6, 7, 8, 9, 10, 11, 12]])) (.cond (.seq (.reg [2] []) .leaf) .leaf))))) (ic := L_BitioWrites_i1) (L_BitioWrites_S R k) (L_BitioWrites_J R k) (by kernel_rfl) (And.intro True.intro (And.intro True.intro (And.intro (And.intro True.intro True.intro) True.intro))) (L_BitioWrites_a1 R k k)
    (fun vals H K r h => by
      unfold L_BitioWrites_a1 L_BitioWrites_aa1 at h
      split at h <;> first | (cases h; done) | exact Eq.trans (L_BitioWrites_e1 (L_few k) L_exampleHoldsq bitio_NewWriter R09_NewWriter (L_write k) (L_writeRef k) bitio_Writer_Len (R09_Writer_Len k) (bitio_Writer_Bytes k) (R09_Writer_Bytes k) R09_SameBytes (L_BitioWrites_l0 k) (L_BitioWrites_p1 k) k _ _ _ _ _ _ _ H K) h)
theorem L_BitioWrites_e0 {R : Type} (L_few : Option Addr → Nat → Nat → Heap → (Bool → Heap → Option R) → Option R) (L_exampleHoldsq : (Bool → Option R) → Option R) (bitio_NewWriter : Heap → (Option Addr → Heap → Option R) → Option R) (R09_NewWriter : Heap → (Option Addr → Heap → Option R) → Option R) (L_write : Option Addr → Int → Int → Int → Heap → (Int → Heap → Option R) → Option R) (L_writeRef : Option Addr → Int → Int → Int → Heap → (Int → Heap → Option R) → Option R) (bitio_Writer_Len : Option Addr → Heap → (Int → Option R) → Option R) (R09_Writer_Len : Option Addr → Heap → (Int → Option R) → Option R) (bitio_Writer_Bytes : Option Addr → Heap → (Option Addr → Nat → Nat → Heap → Option R) → Option R) (R09_Writer_Bytes : Option Addr → Heap → (Option Addr → Nat → Nat → Heap → Option R) → Option R) (R09_SameBytes : Option Addr → Nat → Nat → Option Addr → Nat → Nat → Heap → (Bool → Option R) → Option R) (L_BitioWrites_l0 : (Option Addr → Option Addr → Heap → Option R) → (Bool → Heap → Option R) → Nat → Option Addr → Option Addr → Option Addr → Nat → Nat → Int → Int → Heap → Option R) (L_BitioWrites_p1 : Option Addr → Option Addr → Option Addr → Nat → Nat → Int → Int → Heap → (Option Addr → Option Addr → Option Addr → Nat → Nat → Int → Int → Heap → Option R) → (Bool → Heap → Option R) → Option R) (k n : Nat) (p11 : Option Addr) (p12 : Option Addr) (q13 : Option Addr) (l14 : Nat) (c15 : Nat) (n16 : Int) (n17 : Int) (H : Heap) (K : Xit → Env → Heap → Option R) : evJ (L_BitioWrites_Ct L_few L_exampleHoldsq bitio_NewWriter R09_NewWriter L_write L_writeRef bitio_Writer_Len R09_Writer_Len bitio_Writer_Bytes R09_Writer_Bytes R09_SameBytes) (L_BitioWrites_Jt k L_BitioWrites_l0 L_BitioWrites_p1) L_BitioWrites_i0 (List.zip [3, 4, 13, 14, 15] [.pointer p11, .pointer p12, .slice q13 l14 c15, .int .i64 n16, .int .i64 n17]) H (fun x e' H' => match x with | .normal => L_BitioWrites_aa0 L_BitioWrites_l0 n ((clean e' [3, 4, 13, 14, 15]).map (·.2)) H' K | x => K x (clean e' ((⟨[], [(0, [3, 4])], [2]⟩ : Out).of x)) H') = L_BitioWrites_l0_b L_BitioWrites_p1 (L_BitioWrites_l0 (fun p1077 p1078 H => K (.exit 0) [(3, .pointer p1077), (4, .pointer p1078)] H) (fun t1079 H => K .ret [(2, .bool t1079)] H) n) (fun p1077 p1078 H => K (.exit 0) [(3, .pointer p1077), (4, .pointer p1078)] H) (fun t1079 H => K .ret [(2, .bool t1079)] H) k p11 p12 q13 l14 c15 n16 n17 H := by kernel_rfl
theorem L_BitioWrites_j0 {R : Type} (k : Nat) : JS Try.prog 49 (L_BitioWrites_a0 R k k) [3, 4, 13, 14, 15] ⟨[], [(0, [3, 4])], [2]⟩ (.loop (sel [1, 1, 1, 0, 1, 0, 0] (Try.f3.body.getD .skip))) :=
  loop_ok (nt := 49) (c := (sel [1, 1, 1, 0, 1, 0, 0] (Try.f3.body.getD .skip))) (C := L_BitioWrites_C R k) (an := An) (t := (.seq (.reg [3, 4, 13, 14, 15, 16] []) (.seq (.cond .leaf .leaf) (.seq (.opq 1 [3, 4, 13, 14, 15] ⟨[3, 4, 13, 14, 15], [], [2]⟩ (.node (.seq (.reg [3, 4, 6, 13, 14, 15] []) (.seq (.frz 6 (.reg [3, 4, 13, 14, 15, 32] [[], [], [0, 1], [], [], [0, 1, 2, 3, 4], [0, 1, 2, 3, 4, 5], [0, 1, 2, 3, 4, 5, 6], [0, 1, 2, 3, 4, 5, 6, 7], [0, 1, 2, 3, 4, 5, 6, 7, 8], [0, 1, 2, 3, 4, 5, 6, 7], [0, 1, 2, 3, 4, 5, 6, 7, 8, 9, 10], [0, 1, 2, 3, 4, 5, 6, 7, 8, 9, 10, 11], [0, 1, 2, 3, 4, 5, 6, 7, 8, 9, 10, 11, 12]])) (.cond (.seq (.reg [2] []) .leaf) .leaf))))) (.reg [3, 4, 13, 14, 15] []))))) (ic := L_BitioWrites_i0) (L_BitioWrites_S R k) (L_BitioWrites_J R k) (by kernel_rfl) (And.intro True.intro (And.intro (And.intro True.intro True.intro) (And.intro (L_BitioWrites_j1 k) True.intro))) (L_BitioWrites_a0 R k) (fun vals H K => by unfold L_BitioWrites_a0 L_BitioWrites_aa0; split <;> rfl)
    (fun n vals H K r h => by
      unfold L_BitioWrites_a0 L_BitioWrites_aa0 at h
      split at h <;> first | (cases h; done) | exact Eq.trans (L_BitioWrites_e0 (L_few k) L_exampleHoldsq bitio_NewWriter R09_NewWriter (L_write k) (L_writeRef k) bitio_Writer_Len (R09_Writer_Len k) (bitio_Writer_Bytes k) (R09_Writer_Bytes k) R09_SameBytes (L_BitioWrites_l0 k) (L_BitioWrites_p1 k) k n _ _ _ _ _ _ _ H K) h) k
def L_BitioWrites_ca {R : Type} (f : Option Addr → Nat → Nat → Heap → (Bool → Heap → Option R) → Option R) (args : List Value) (H : Heap) (K : Value → Heap → Option R) : Option R :=
  match args with
  | [.slice q1 l2 c3] => f q1 l2 c3 H (fun t1088 H => K (.bool t1088) H)
  | _ => none
def L_BitioWrites_c (R : Type) (k : Nat) (args : List Value) (H : Heap) (K : Value → Heap → Option R) : Option R := L_BitioWrites_ca (L_BitioWrites k) args H K
theorem L_BitioWrites_e {R : Type} (L_few : Option Addr → Nat → Nat → Heap → (Bool → Heap → Option R) → Option R) (L_exampleHoldsq : (Bool → Option R) → Option R) (bitio_NewWriter : Heap → (Option Addr → Heap → Option R) → Option R) (R09_NewWriter : Heap → (Option Addr → Heap → Option R) → Option R) (L_write : Option Addr → Int → Int → Int → Heap → (Int → Heap → Option R) → Option R) (L_writeRef : Option Addr → Int → Int → Int → Heap → (Int → Heap → Option R) → Option R) (bitio_Writer_Len : Option Addr → Heap → (Int → Option R) → Option R) (R09_Writer_Len : Option Addr → Heap → (Int → Option R) → Option R) (bitio_Writer_Bytes : Option Addr → Heap → (Option Addr → Nat → Nat → Heap → Option R) → Option R) (R09_Writer_Bytes : Option Addr → Heap → (Option Addr → Nat → Nat → Heap → Option R) → Option R) (R09_SameBytes : Option Addr → Nat → Nat → Option Addr → Nat → Nat → Heap → (Bool → Option R) → Option R) (L_BitioWrites_l0 : (Option Addr → Option Addr → Heap → Option R) → (Bool → Heap → Option R) → Nat → Option Addr → Option Addr → Option Addr → Nat → Nat → Int → Int → Heap → Option R) (L_BitioWrites_p1 : Option Addr → Option Addr → Option Addr → Nat → Nat → Int → Int → Heap → (Option Addr → Option Addr → Option Addr → Nat → Nat → Int → Int → Heap → Option R) → (Bool → Heap → Option R) → Option R) (k : Nat) (q1 : Option Addr) (l2 : Nat) (c3 : Nat) (H : Heap) (K : Value → Heap → Option R) : evF (L_BitioWrites_Ct L_few L_exampleHoldsq bitio_NewWriter R09_NewWriter L_write L_writeRef bitio_Writer_Len R09_Writer_Len bitio_Writer_Bytes R09_Writer_Bytes R09_SameBytes) (L_BitioWrites_Jt k L_BitioWrites_l0 L_BitioWrites_p1) L_BitioWrites_f [.slice q1 l2 c3] H K = L_BitioWrites_b L_few L_exampleHoldsq bitio_NewWriter R09_NewWriter L_BitioWrites_l0 bitio_Writer_Bytes R09_Writer_Bytes R09_SameBytes k q1 l2 c3 H (fun t1088 H => K (.bool t1088) H) := by kernel_rfl
theorem L_BitioWrites_cs (R : Type) (k : Nat) : ∀ args H K r, L_BitioWrites_c R k args H K = some r → ∃ v H', Tri Try.prog 3 args H v H' ∧ K v H' = some r := by
  intro args H K r h
  unfold L_BitioWrites_c L_BitioWrites_ca at h
  split at h
  · exact evF_ok (C := L_BitioWrites_C R k) (an := An) (t := L_BitioWrites_at) (fn := Try.f3) (c := (Try.f3.body.getD .skip)) (ifn := L_BitioWrites_f) (L_BitioWrites_S R k) (L_BitioWrites_J R k) Try.func3 (by kernel_rfl) (by kernel_rfl) (And.intro True.intro (And.intro (And.intro True.intro (And.intro (And.intro True.intro True.intro) True.intro)) (And.intro True.intro (And.intro (And.intro True.intro (L_BitioWrites_j0 k)) (And.intro True.intro True.intro))))) rfl (Eq.trans (L_BitioWrites_e (L_few k) L_exampleHoldsq bitio_NewWriter R09_NewWriter (L_write k) (L_writeRef k) bitio_Writer_Len (R09_Writer_Len k) (bitio_Writer_Bytes k) (R09_Writer_Bytes k) R09_SameBytes (L_BitioWrites_l0 k) (L_BitioWrites_p1 k) k _ _ _ H K) h)
  · cases h
end Go.Proofs.Ytiapgcgpdndkiaa.Sh
