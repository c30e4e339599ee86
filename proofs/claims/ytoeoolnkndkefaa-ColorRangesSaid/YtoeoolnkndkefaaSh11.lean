/- Lean functions that stand for Go's, over an explicit heap, and the proofs that they do (written by this claim's program shallow.py). -/
import Derived.Test.YtoeoolnkndkefaaSh0
import Derived.Test.YtoeoolnkndkefaaSh5
import Derived.Test.YtoeoolnkndkefaaSh6
import Derived.Test.YtoeoolnkndkefaaSh7
import Derived.Test.YtoeoolnkndkefaaSh8
set_option maxRecDepth 100000
set_option linter.unusedVariables false
set_option linter.unusedSimpArgs false
namespace Go.Proofs.Ytoeoolnkndkefaa.Sh
open Go.Proofs.Ytoeoolnkndkefaa.FW
/-! ### R07_errors: function 40 -/
def R07_errors_l0_b {R : Type} (R02_Valid : Int → Int → Int → Int → Option Addr → Nat → Nat → Heap → (Bool → Heap → Option R) → Option R) (rec : Int → Option Addr → Nat → Nat → Int → Int → Heap → Option R) (KE0 : Int → Option Addr → Nat → Nat → Int → Heap → Option R) (KR : Int → Heap → Option R) (k : Nat) (n127 : Int) (q128 : Option Addr) (l129 : Nat) (c130 : Nat) (n131 : Int) (n132 : Int) (H : Heap) : Option R :=
bif decide (n132 < ((l129 : Nat) : Int)) then (hidx q128 l129 n132 5 fun p133 =>
ldI .i64 H (pad p133 0) fun n134 =>
ldI .i64 H (pad p133 1) fun n135 =>
ldI .i64 H (pad p133 2) fun n136 =>
ldI .i64 H (pad p133 3) fun n137 =>
ldL H (pad p133 4) fun q138 l139 c140 =>
R02_Valid n134 n135 n136 n137 q138 l139 c140 H fun t141 H142 =>
bif (!t141) then (KR 1 H142)
 else (rec n127 q128 l129 c130 n131 (IntKind.wrap .i64 (n132 + 1)) H142))
 else (KE0 n127 q128 l129 c130 n131 H)
def R07_errors_l0 {R : Type} (k : Nat) (KE0 : Int → Option Addr → Nat → Nat → Int → Heap → Option R) (KR : Int → Heap → Option R) : Nat → Int → Option Addr → Nat → Nat → Int → Int → Heap → Option R
  | 0, _, _, _, _, _, _, _ => none
  | n + 1, n127, q128, l129, c130, n131, n132, H => R07_errors_l0_b R02_Valid (R07_errors_l0 k KE0 KR n) KE0 KR k n127 q128 l129 c130 n131 n132 H

def R07_errors_p1_b {R : Type} (k : Nat) (q155 : Option Addr) (l156 : Nat) (c157 : Nat) (n158 : Int) (H : Heap) (KN : Option Addr → Nat → Nat → Int → Option R) (KR : Int → Option R) : Option R :=
hidx q155 l156 0 5 fun p159 =>
hfad 0 p159 fun p160 =>
ldI .i64 H (pad p160 0) fun n161 =>
ldI .i64 H (pad p160 1) fun n162 =>
ldI .i64 H (pad p160 2) fun n163 =>
ldI .i64 H (pad p160 3) fun n164 =>
hidx q155 l156 1 5 fun p165 =>
hfad 0 p165 fun p166 =>
ldI .i64 H (pad p166 0) fun n167 =>
ldI .i64 H (pad p166 1) fun n168 =>
ldI .i64 H (pad p166 2) fun n169 =>
ldI .i64 H (pad p166 3) fun n170 =>
bif (!((((true && (n161 == n167)) && (n162 == n168)) && (n163 == n169)) && (n164 == n170))) then (KR 1)
 else (hidx q155 l156 0 5 fun p171 =>
hfad 0 p171 fun p172 =>
ldI .i64 H (pad p172 0) fun n173 =>
ldI .i64 H (pad p172 1) fun n174 =>
ldI .i64 H (pad p172 2) fun n175 =>
ldI .i64 H (pad p172 3) fun n176 =>
hidx q155 l156 2 5 fun p177 =>
hfad 0 p177 fun p178 =>
ldI .i64 H (pad p178 0) fun n179 =>
ldI .i64 H (pad p178 1) fun n180 =>
ldI .i64 H (pad p178 2) fun n181 =>
ldI .i64 H (pad p178 3) fun n182 =>
bif (!((((true && (n173 == n179)) && (n174 == n180)) && (n175 == n181)) && (n176 == n182))) then (KR 1)
 else (KN q155 l156 c157 n158))
def R07_errors_p1 {R : Type} (k : Nat) (q155 : Option Addr) (l156 : Nat) (c157 : Nat) (n158 : Int) (H : Heap) (KN : Option Addr → Nat → Nat → Int → Option R) (KR : Int → Option R) : Option R := R07_errors_p1_b k q155 l156 c157 n158 H KN KR

def R07_errors_l2_b {R : Type} (R02_Bounded : Int → Int → Int → Int → Option Addr → Nat → Nat → Int → Heap → (Bool → Heap → Option R) → Option R) (rec : Option Addr → Nat → Nat → Int → Int → Heap → Option R) (KE2 : Heap → Option R) (KR : Int → Heap → Option R) (k : Nat) (q192 : Option Addr) (l193 : Nat) (c194 : Nat) (n195 : Int) (n196 : Int) (H : Heap) : Option R :=
bif decide (n196 < 3) then (hidx q192 l193 n196 5 fun p197 =>
ldI .i64 H (pad p197 0) fun n198 =>
ldI .i64 H (pad p197 1) fun n199 =>
ldI .i64 H (pad p197 2) fun n200 =>
ldI .i64 H (pad p197 3) fun n201 =>
ldL H (pad p197 4) fun q202 l203 c204 =>
R02_Bounded n198 n199 n200 n201 q202 l203 c204 n195 H fun t205 H206 =>
bif (!t205) then (KR 2 H206)
 else (rec q192 l193 c194 n195 (IntKind.wrap .i64 (n196 + 1)) H206))
 else (KE2 H)
def R07_errors_l2 {R : Type} (k : Nat) (KE2 : Heap → Option R) (KR : Int → Heap → Option R) : Nat → Option Addr → Nat → Nat → Int → Int → Heap → Option R
  | 0, _, _, _, _, _, _ => none
  | n + 1, q192, l193, c194, n195, n196, H => R07_errors_l2_b (R02_Bounded k) (R07_errors_l2 k KE2 KR n) KE2 KR k q192 l193 c194 n195 n196 H

def R07_errors_b {R : Type} (R07_ValidKind : Int → (Bool → Option R) → Option R) (R07_errors_l0 : (Int → Option Addr → Nat → Nat → Int → Heap → Option R) → (Int → Heap → Option R) → Nat → Int → Option Addr → Nat → Nat → Int → Int → Heap → Option R) (R07_errors_p1 : Option Addr → Nat → Nat → Int → Heap → (Option Addr → Nat → Nat → Int → Option R) → (Int → Option R) → Option R) (R07_errors_l2 : (Heap → Option R) → (Int → Heap → Option R) → Nat → Option Addr → Nat → Nat → Int → Int → Heap → Option R) (k : Nat) (n121 : Int) (q122 : Option Addr) (l123 : Nat) (c124 : Nat) (n125 : Int) (H : Heap) (K : Int → Heap → Option R) : Option R :=
R07_ValidKind n121 fun t126 =>
bif (!t126) then (K 3 H)
 else (R07_errors_l0 (fun n149 q150 l151 c152 n153 H154 =>
bif (n149 == 0) then (K 0 H154)
 else (bif decide (((l151 : Nat) : Int) < 3) then (K 4 H154)
 else (R07_errors_p1 q150 l151 c152 n153 H154 (fun q188 l189 c190 n191 =>
R07_errors_l2 (fun H208 =>
K 0 H208) (fun n209 H210 =>
K n209 H210) k q188 l189 c190 n191 0 H154) (fun n211 =>
K n211 H154)))) (fun n212 H213 =>
K n212 H213) k n121 q122 l123 c124 n125 0 H)

def R07_errors {R : Type} (k : Nat) (n121 : Int) (q122 : Option Addr) (l123 : Nat) (c124 : Nat) (n125 : Int) (H : Heap) (K : Int → Heap → Option R) : Option R := R07_errors_b R07_ValidKind (R07_errors_l0 k) (R07_errors_p1 k) (R07_errors_l2 k) k n121 q122 l123 c124 n125 H K

def R07_errors_Ct {R : Type} (R07_ValidKind : Int → (Bool → Option R) → Option R) (R02_Valid : Int → Int → Int → Int → Option Addr → Nat → Nat → Heap → (Bool → Heap → Option R) → Option R) (R02_Bounded : Int → Int → Int → Int → Option Addr → Nat → Nat → Int → Heap → (Bool → Heap → Option R) → Option R) : Tab R := tcons 49 (R07_ValidKind_ca R07_ValidKind) <| tcons 46 (R02_Valid_ca R02_Valid) <| tcons 31 (R02_Bounded_ca R02_Bounded) <| fun _ _ _ _ => none
def R07_errors_C (R : Type) (k : Nat) : Tab R := R07_errors_Ct R07_ValidKind R02_Valid (R02_Bounded k)
theorem R07_errors_S (R : Type) (k : Nat) : CSound Try.prog (R07_errors_C R k) := csound_cons (R07_ValidKind_cs R k) <| csound_cons (R02_Valid_cs R k) <| csound_cons (R02_Bounded_cs R k) <| csound_nil
def R07_errors_aa0 {R : Type} (f : (Int → Option Addr → Nat → Nat → Int → Heap → Option R) → (Int → Heap → Option R) → Nat → Int → Option Addr → Nat → Nat → Int → Int → Heap → Option R) (n : Nat) (vals : List Value) (H : Heap) (K : Xit → Env → Heap → Option R) : Option R :=
  match vals with
  | [.int .i64 n127, .slice q128 l129 c130, .int .i64 n131, .int .i64 n132] => f (fun n1163 q1164 l1165 c1166 n1167 H => K (.exit 0) [(0, .int .i64 n1163), (1, .slice q1164 l1165 c1166), (2, .int .i64 n1167)] H) (fun n1168 H => K .ret [(6, .int .i64 n1168)] H) n n127 q128 l129 c130 n131 n132 H
  | _ => none
def R07_errors_a0 (R : Type) (k n : Nat) (vals : List Value) (H : Heap) (K : Xit → Env → Heap → Option R) : Option R := R07_errors_aa0 (R07_errors_l0 k) n vals H K
def R07_errors_aa1 {R : Type} (f : Option Addr → Nat → Nat → Int → Heap → (Option Addr → Nat → Nat → Int → Option R) → (Int → Option R) → Option R) (n : Nat) (vals : List Value) (H : Heap) (K : Xit → Env → Heap → Option R) : Option R :=
  match vals with
  | [.slice q155 l156 c157, .int .i64 n158] => f q155 l156 c157 n158 H (fun q1169 l1170 c1171 n1172 => K .normal [(1, .slice q1169 l1170 c1171), (2, .int .i64 n1172)] H) (fun n1173 => K .ret [(6, .int .i64 n1173)] H)
  | _ => none
def R07_errors_a1 (R : Type) (k n : Nat) (vals : List Value) (H : Heap) (K : Xit → Env → Heap → Option R) : Option R := R07_errors_aa1 (R07_errors_p1 k) n vals H K
def R07_errors_aa2 {R : Type} (f : (Heap → Option R) → (Int → Heap → Option R) → Nat → Option Addr → Nat → Nat → Int → Int → Heap → Option R) (n : Nat) (vals : List Value) (H : Heap) (K : Xit → Env → Heap → Option R) : Option R :=
  match vals with
  | [.slice q192 l193 c194, .int .i64 n195, .int .i64 n196] => f (fun H => K (.exit 2) [] H) (fun n1174 H => K .ret [(6, .int .i64 n1174)] H) n q192 l193 c194 n195 n196 H
  | _ => none
def R07_errors_a2 (R : Type) (k n : Nat) (vals : List Value) (H : Heap) (K : Xit → Env → Heap → Option R) : Option R := R07_errors_aa2 (R07_errors_l2 k) n vals H K
def R07_errors_Jt {R : Type} (k : Nat) (R07_errors_l0 : (Int → Option Addr → Nat → Nat → Int → Heap → Option R) → (Int → Heap → Option R) → Nat → Int → Option Addr → Nat → Nat → Int → Int → Heap → Option R) (R07_errors_p1 : Option Addr → Nat → Nat → Int → Heap → (Option Addr → Nat → Nat → Int → Option R) → (Int → Option R) → Option R) (R07_errors_l2 : (Heap → Option R) → (Int → Heap → Option R) → Nat → Option Addr → Nat → Nat → Int → Int → Heap → Option R) : JTab R := tcons 0 (R07_errors_aa0 R07_errors_l0 k) <| tcons 1 (R07_errors_aa1 R07_errors_p1 k) <| tcons 2 (R07_errors_aa2 R07_errors_l2 k) <| fun _ _ _ _ => none
def R07_errors_J (R : Type) (k : Nat) : JTab R := R07_errors_Jt k (R07_errors_l0 k) (R07_errors_p1 k) (R07_errors_l2 k)
def R07_errors_at : AT := (.seq (.reg [0, 1, 2] []) (.seq (.seq (.reg [0, 1, 2, 11] []) (.cond (.seq (.reg [6] []) .leaf) .leaf)) (.seq (.seq (.reg [0, 1, 2, 7] []) (.node (.opq 0 [0, 1, 2, 7] ⟨[], [(0, [0, 1, 2])], [6]⟩ (.node (.seq (.seq (.reg [0, 1, 2, 7, 15] []) (.cond .leaf .leaf)) (.seq (.node (.seq (.reg [0, 1, 2, 7, 23] []) (.cond (.seq (.reg [6] []) .leaf) .leaf))) (.reg [0, 1, 2, 7] []))))))) (.seq (.seq (.reg [1, 2, 25] []) (.cond (.seq (.reg [6] []) .leaf) .leaf)) (.seq (.seq (.reg [1, 2, 28] []) (.cond (.seq (.reg [6] []) .leaf) .leaf)) (.seq (.opq 1 [1, 2] ⟨[1, 2], [], [6]⟩ (.seq (.reg [1, 2, 48] [[], [0], [0, 1], [0, 1, 2], [], [4], [4, 5], [4, 5, 6], [0, 1, 2, 3, 4, 5, 6, 7], [0, 1, 2, 3, 4, 5, 6, 7, 8], [0, 1, 2, 3, 4, 5, 6, 7, 8, 9], [0, 1, 2, 3, 4, 5, 6, 7, 8, 9, 10], [0, 1, 2, 3, 4, 5, 6, 7, 8, 9, 10, 11], [0, 1, 2, 3, 4, 5, 6, 7, 8, 9, 10, 11, 12], [0, 1, 2, 3, 4, 5, 6, 7, 8, 9], [0, 1, 2, 3, 4, 5, 6, 7, 8, 9, 14], [0, 1, 2, 3, 4, 5, 6, 7, 8, 9, 14, 15], [0, 1, 2, 3, 4, 5, 6, 7, 8, 9, 14, 15, 16], [0, 1, 2, 3, 4, 5, 6, 7, 8, 9, 10, 11, 12, 13, 14, 15, 16, 17], [0, 1, 2, 3, 4, 5, 6, 7, 8, 9, 10, 11, 12, 13, 14, 15, 16, 17, 18]]) (.cond (.seq (.reg [6] []) .leaf) .leaf))) (.seq (.seq (.reg [1, 2, 8] []) (.node (.opq 2 [1, 2, 8] ⟨[], [(2, [])], [6]⟩ (.node (.seq (.seq (.reg [1, 2, 8, 50] []) (.cond .leaf .leaf)) (.seq (.node (.seq (.reg [1, 2, 8, 59] []) (.cond (.seq (.reg [6] []) .leaf) .leaf))) (.reg [1, 2, 8] []))))))) (.seq (.reg [6] []) .leaf))))))))
def R07_errors_i2 : IC := (.seq (.seq (.reg [⟨some 49, .mov (.t 8), none⟩,
 ⟨some 50, .cmp .lss (.t 49) (.c (Go.Value.int Go.IntKind.i64 3)), none⟩] [1, 2, 8, 50]) (.cond (.t 50) .skip (.exit 2))) (.seq (.block 3 (.seq (.reg [⟨some 53, .mov (.t 1), none⟩,
 ⟨some 54, .mov (.t 8), none⟩,
 ⟨some 55, .ids 5 (.t 53) (.t 54), none⟩,
 ⟨some 56, .ld (.agg [(.int .i64), (.int .i64), (.int .i64), (.int .i64), .slc]) (.t 55), none⟩,
 ⟨some 57, .mov (.t 2), none⟩,
 ⟨some 58, .call 31 [(.t 56), (.t 57)] (.one (.sc .bool)), none⟩,
 ⟨some 59, .lnot (.t 58), none⟩] [1, 2, 8, 59]) (.cond (.t 59) (.seq (.reg [⟨some 6, .mov (.c (Go.Value.int Go.IntKind.i64 2)), none⟩] [6]) .ret) .skip))) (.reg [⟨some 51, .mov (.t 8), none⟩,
 ⟨some 52, .bin .add .i64 (.t 51) (.c (Go.Value.int Go.IntKind.i64 1)), none⟩,
 ⟨some 8, .mov (.t 52), none⟩] [1, 2, 8])))
def R07_errors_i1 : IC := (.seq (.reg [⟨some 29, .mov (.t 1), none⟩,
 ⟨some 30, .ids 5 (.t 29) (.c (Go.Value.int Go.IntKind.i64 0)), none⟩,
 ⟨some 31, .fad 0 (.t 30), none⟩,
 ⟨some 32, .ld (.agg [(.int .i64), (.int .i64), (.int .i64), (.int .i64)]) (.t 31), none⟩,
 ⟨some 33, .mov (.t 1), none⟩,
 ⟨some 34, .ids 5 (.t 33) (.c (Go.Value.int Go.IntKind.i64 1)), none⟩,
 ⟨some 35, .fad 0 (.t 34), none⟩,
 ⟨some 36, .ld (.agg [(.int .i64), (.int .i64), (.int .i64), (.int .i64)]) (.t 35), none⟩,
 ⟨some 37, .eqs [(0, 0), (1, 0), (2, 0), (3, 0)] (.t 32) (.t 36) true, none⟩,
 ⟨some 38, .mov (.t 37), none⟩,
 ⟨some 39, .mov (.t 1), some (38, false)⟩,
 ⟨some 40, .ids 5 (.t 39) (.c (Go.Value.int Go.IntKind.i64 0)), some (38, false)⟩,
 ⟨some 41, .fad 0 (.t 40), some (38, false)⟩,
 ⟨some 42, .ld (.agg [(.int .i64), (.int .i64), (.int .i64), (.int .i64)]) (.t 41), some (38, false)⟩,
 ⟨some 43, .mov (.t 1), some (38, false)⟩,
 ⟨some 44, .ids 5 (.t 43) (.c (Go.Value.int Go.IntKind.i64 2)), some (38, false)⟩,
 ⟨some 45, .fad 0 (.t 44), some (38, false)⟩,
 ⟨some 46, .ld (.agg [(.int .i64), (.int .i64), (.int .i64), (.int .i64)]) (.t 45), some (38, false)⟩,
 ⟨some 47, .eqs [(0, 0), (1, 0), (2, 0), (3, 0)] (.t 42) (.t 46) true, some (38, false)⟩,
 ⟨some 48, .pick (.t 38) (.c (Go.Value.bool true)) (.t 47), none⟩] [1, 2, 48]) (.cond (.t 48) (.seq (.reg [⟨some 6, .mov (.c (Go.Value.int Go.IntKind.i64 1)), none⟩] [6]) .ret) .skip))
def R07_errors_i0 : IC := (.seq (.seq (.reg [⟨some 12, .mov (.t 7), none⟩,
 ⟨some 13, .mov (.t 1), none⟩,
 ⟨some 14, .len false (.t 13), none⟩,
 ⟨some 15, .cmp .lss (.t 12) (.t 14), none⟩] [0, 1, 2, 7, 15]) (.cond (.t 15) .skip (.exit 0))) (.seq (.block 1 (.seq (.reg [⟨some 18, .mov (.t 1), none⟩,
 ⟨some 19, .mov (.t 7), none⟩,
 ⟨some 20, .ids 5 (.t 18) (.t 19), none⟩,
 ⟨some 21, .ld (.agg [(.int .i64), (.int .i64), (.int .i64), (.int .i64), .slc]) (.t 20), none⟩,
 ⟨some 22, .call 46 [(.t 21)] (.one (.sc .bool)), none⟩,
 ⟨some 23, .lnot (.t 22), none⟩] [0, 1, 2, 7, 23]) (.cond (.t 23) (.seq (.reg [⟨some 6, .mov (.c (Go.Value.int Go.IntKind.i64 1)), none⟩] [6]) .ret) .skip))) (.reg [⟨some 16, .mov (.t 7), none⟩,
 ⟨some 17, .bin .add .i64 (.t 16) (.c (Go.Value.int Go.IntKind.i64 1)), none⟩,
 ⟨some 7, .mov (.t 17), none⟩] [0, 1, 2, 7])))
def R07_errors_f : IFn := ⟨60, [.t 6], (.seq (.reg [⟨some 6, .mov (.c (Go.Value.int Go.IntKind.i64 0)), none⟩] [0, 1, 2]) (.seq (.seq (.reg [⟨some 9, .mov (.t 0), none⟩,
 ⟨some 10, .call 49 [(.t 9)] (.one (.sc .bool)), none⟩,
 ⟨some 11, .lnot (.t 10), none⟩] [0, 1, 2, 11]) (.cond (.t 11) (.seq (.reg [⟨some 6, .mov (.c (Go.Value.int Go.IntKind.i64 3)), none⟩] [6]) .ret) .skip)) (.seq (.seq (.reg [⟨some 7, .mov (.c (Go.Value.int Go.IntKind.i64 0)), none⟩] [0, 1, 2, 7]) (.block 0 (.opq 0 [0, 1, 2, 7] (.loop R07_errors_i0)))) (.seq (.seq (.reg [⟨some 24, .mov (.t 0), none⟩,
 ⟨some 25, .cmp .eql (.t 24) (.c (Go.Value.int Go.IntKind.i64 0)), none⟩] [1, 2, 25]) (.cond (.t 25) (.seq (.reg [⟨some 6, .mov (.c (Go.Value.int Go.IntKind.i64 0)), none⟩] [6]) .ret) .skip)) (.seq (.seq (.reg [⟨some 26, .mov (.t 1), none⟩,
 ⟨some 27, .len false (.t 26), none⟩,
 ⟨some 28, .cmp .lss (.t 27) (.c (Go.Value.int Go.IntKind.i64 3)), none⟩] [1, 2, 28]) (.cond (.t 28) (.seq (.reg [⟨some 6, .mov (.c (Go.Value.int Go.IntKind.i64 4)), none⟩] [6]) .ret) .skip)) (.seq (.opq 1 [1, 2] R07_errors_i1) (.seq (.seq (.reg [⟨some 8, .mov (.c (Go.Value.int Go.IntKind.i64 0)), none⟩] [1, 2, 8]) (.block 2 (.opq 2 [1, 2, 8] (.loop R07_errors_i2)))) (.seq (.reg [⟨some 6, .mov (.c (Go.Value.int Go.IntKind.i64 0)), none⟩] [6]) .ret))))))))⟩
theorem R07_errors_e2 {R : Type} (R07_ValidKind : Int → (Bool → Option R) → Option R) (R02_Valid : Int → Int → Int → Int → Option Addr → Nat → Nat → Heap → (Bool → Heap → Option R) → Option R) (R02_Bounded : Int → Int → Int → Int → Option Addr → Nat → Nat → Int → Heap → (Bool → Heap → Option R) → Option R) (R07_errors_l0 : (Int → Option Addr → Nat → Nat → Int → Heap → Option R) → (Int → Heap → Option R) → Nat → Int → Option Addr → Nat → Nat → Int → Int → Heap → Option R) (R07_errors_p1 : Option Addr → Nat → Nat → Int → Heap → (Option Addr → Nat → Nat → Int → Option R) → (Int → Option R) → Option R) (R07_errors_l2 : (Heap → Option R) → (Int → Heap → Option R) → Nat → Option Addr → Nat → Nat → Int → Int → Heap → Option R) (k n : Nat) (q192 : Option Addr) (l193 : Nat) (c194 : Nat) (n195 : Int) (n196 : Int) (H : Heap) (K : Xit → Env → Heap → Option R) : evJ (R07_errors_Ct R07_ValidKind R02_Valid R02_Bounded) (R07_errors_Jt k R07_errors_l0 R07_errors_p1 R07_errors_l2) R07_errors_i2 (List.zip [1, 2, 8] [.slice q192 l193 c194, .int .i64 n195, .int .i64 n196]) H (fun x e' H' => match x with | .normal => R07_errors_aa2 R07_errors_l2 n ((clean e' [1, 2, 8]).map (·.2)) H' K | x => K x (clean e' ((⟨[], [(2, [])], [6]⟩ : Out).of x)) H') = R07_errors_l2_b R02_Bounded (R07_errors_l2 (fun H => K (.exit 2) [] H) (fun n1174 H => K .ret [(6, .int .i64 n1174)] H) n) (fun H => K (.exit 2) [] H) (fun n1174 H => K .ret [(6, .int .i64 n1174)] H) k q192 l193 c194 n195 n196 H := by kernel_rfl
theorem R07_errors_j2 {R : Type} (k : Nat) : JS Try.prog 60 (R07_errors_a2 R k k) [1, 2, 8] ⟨[], [(2, [])], [6]⟩ (.loop (sel [1, 1, 1, 1, 1, 1, 0, 1, 0, 0] (Try.f40.body.getD .skip))) :=
  loop_ok (nt := 60) (c := (sel [1, 1, 1, 1, 1, 1, 0, 1, 0, 0] (Try.f40.body.getD .skip))) (C := R07_errors_C R k) (an := An) (t := (.seq (.seq (.reg [1, 2, 8, 50] []) (.cond .leaf .leaf)) (.seq (.node (.seq (.reg [1, 2, 8, 59] []) (.cond (.seq (.reg [6] []) .leaf) .leaf))) (.reg [1, 2, 8] [])))) (ic := R07_errors_i2) (R07_errors_S R k) (R07_errors_J R k) (by kernel_rfl) (And.intro (And.intro True.intro (And.intro True.intro True.intro)) (And.intro (And.intro True.intro (And.intro (And.intro True.intro True.intro) True.intro)) True.intro)) (R07_errors_a2 R k) (fun vals H K => by unfold R07_errors_a2 R07_errors_aa2; split <;> rfl)
    (fun n vals H K r h => by
      unfold R07_errors_a2 R07_errors_aa2 at h
      split at h <;> first | (cases h; done) | exact Eq.trans (R07_errors_e2 R07_ValidKind R02_Valid (R02_Bounded k) (R07_errors_l0 k) (R07_errors_p1 k) (R07_errors_l2 k) k n _ _ _ _ _ H K) h) k
theorem R07_errors_e1 {R : Type} (R07_ValidKind : Int → (Bool → Option R) → Option R) (R02_Valid : Int → Int → Int → Int → Option Addr → Nat → Nat → Heap → (Bool → Heap → Option R) → Option R) (R02_Bounded : Int → Int → Int → Int → Option Addr → Nat → Nat → Int → Heap → (Bool → Heap → Option R) → Option R) (R07_errors_l0 : (Int → Option Addr → Nat → Nat → Int → Heap → Option R) → (Int → Heap → Option R) → Nat → Int → Option Addr → Nat → Nat → Int → Int → Heap → Option R) (R07_errors_p1 : Option Addr → Nat → Nat → Int → Heap → (Option Addr → Nat → Nat → Int → Option R) → (Int → Option R) → Option R) (R07_errors_l2 : (Heap → Option R) → (Int → Heap → Option R) → Nat → Option Addr → Nat → Nat → Int → Int → Heap → Option R) (k : Nat) (q155 : Option Addr) (l156 : Nat) (c157 : Nat) (n158 : Int) (H : Heap) (K : Xit → Env → Heap → Option R) : evJ (R07_errors_Ct R07_ValidKind R02_Valid R02_Bounded) (R07_errors_Jt k R07_errors_l0 R07_errors_p1 R07_errors_l2) R07_errors_i1 (List.zip [1, 2] [.slice q155 l156 c157, .int .i64 n158]) H (fun x e' H' => K x (clean e' ((⟨[1, 2], [], [6]⟩ : Out).of x)) H') = R07_errors_p1_b k q155 l156 c157 n158 H (fun q1169 l1170 c1171 n1172 => K .normal [(1, .slice q1169 l1170 c1171), (2, .int .i64 n1172)] H) (fun n1173 => K .ret [(6, .int .i64 n1173)] H) := by kernel_rfl
theorem R07_errors_j1 {R : Type} (k : Nat) : JS Try.prog 60 (R07_errors_a1 R k k) [1, 2] ⟨[1, 2], [], [6]⟩ (sel [1, 1, 1, 1, 1, 0] (Try.f40.body.getD .skip)) :=
  piece_ok (nt := 60) (c := (sel [1, 1, 1, 1, 1, 0] (Try.f40.body.getD .skip))) (C := R07_errors_C R k) (an := An) (t := (.seq (.reg [1, 2, 48] [[], [0], [0, 1], [0, 1, 2], [], [4], [4, 5], [4, 5, 6], [0, 1, 2, 3, 4, 5, 6, 7], [0, 1, 2, 3, 4, 5, 6, 7, 8], [0, 1, 2, 3, 4, 5, 6, 7, 8, 9], [0, 1, 2, 3, 4, 5, 6, 7, 8, 9, 10], [0, 1, 2, 3, 4, 5, 6, 7, 8, 9, 10, 11], [0, 1, 2, 3, 4, 5, 6, 7, 8, 9, 10, 11, 12], [0, 1, 2, 3, 4, 5, 6, 7, 8, 9], [0, 1, 2, 3, 4, 5, 6, 7, 8, 9, 14], [0, 1, 2, 3, 4, 5, 6, 7, 8, 9, 14, 15], [0, 1, 2, 3, 4, 5, 6, 7, 8, 9, 14, 15, 16], [0, 1, 2, 3, 4, 5, 6, 7, 8, 9, 10, 11, 12, 13, 14, 15, 16, 17], [0, 1, 2, 3, 4, 5, 6, 7, 8, 9, 10, 11, 12, 13, 14, 15, 16, 17, 18]]) (.cond (.seq (.reg [6] []) .leaf) .leaf))) (ic := R07_errors_i1) (R07_errors_S R k) (R07_errors_J R k) (by kernel_rfl) (And.intro True.intro (And.intro (And.intro True.intro True.intro) True.intro)) (R07_errors_a1 R k k)
    (fun vals H K r h => by
      unfold R07_errors_a1 R07_errors_aa1 at h
      split at h <;> first | (cases h; done) | exact Eq.trans (R07_errors_e1 R07_ValidKind R02_Valid (R02_Bounded k) (R07_errors_l0 k) (R07_errors_p1 k) (R07_errors_l2 k) k _ _ _ _ H K) h)
theorem R07_errors_e0 {R : Type} (R07_ValidKind : Int → (Bool → Option R) → Option R) (R02_Valid : Int → Int → Int → Int → Option Addr → Nat → Nat → Heap → (Bool → Heap → Option R) → Option R) (R02_Bounded : Int → Int → Int → Int → Option Addr → Nat → Nat → Int → Heap → (Bool → Heap → Option R) → Option R) (R07_errors_l0 : (Int → Option Addr → Nat → Nat → Int → Heap → Option R) → (Int → Heap → Option R) → Nat → Int → Option Addr → Nat → Nat → Int → Int → Heap → Option R) (R07_errors_p1 : Option Addr → Nat → Nat → Int → Heap → (Option Addr → Nat → Nat → Int → Option R) → (Int → Option R) → Option R) (R07_errors_l2 : (Heap → Option R) → (Int → Heap → Option R) → Nat → Option Addr → Nat → Nat → Int → Int → Heap → Option R) (k n : Nat) (n127 : Int) (q128 : Option Addr) (l129 : Nat) (c130 : Nat) (n131 : Int) (n132 : Int) (H : Heap) (K : Xit → Env → Heap → Option R) : evJ (R07_errors_Ct R07_ValidKind R02_Valid R02_Bounded) (R07_errors_Jt k R07_errors_l0 R07_errors_p1 R07_errors_l2) R07_errors_i0 (List.zip [0, 1, 2, 7] [.int .i64 n127, .slice q128 l129 c130, .int .i64 n131, .int .i64 n132]) H (fun x e' H' => match x with | .normal => R07_errors_aa0 R07_errors_l0 n ((clean e' [0, 1, 2, 7]).map (·.2)) H' K | x => K x (clean e' ((⟨[], [(0, [0, 1, 2])], [6]⟩ : Out).of x)) H') = R07_errors_l0_b R02_Valid (R07_errors_l0 (fun n1163 q1164 l1165 c1166 n1167 H => K (.exit 0) [(0, .int .i64 n1163), (1, .slice q1164 l1165 c1166), (2, .int .i64 n1167)] H) (fun n1168 H => K .ret [(6, .int .i64 n1168)] H) n) (fun n1163 q1164 l1165 c1166 n1167 H => K (.exit 0) [(0, .int .i64 n1163), (1, .slice q1164 l1165 c1166), (2, .int .i64 n1167)] H) (fun n1168 H => K .ret [(6, .int .i64 n1168)] H) k n127 q128 l129 c130 n131 n132 H := by kernel_rfl
theorem R07_errors_j0 {R : Type} (k : Nat) : JS Try.prog 60 (R07_errors_a0 R k k) [0, 1, 2, 7] ⟨[], [(0, [0, 1, 2])], [6]⟩ (.loop (sel [1, 1, 0, 1, 0, 0] (Try.f40.body.getD .skip))) :=
  loop_ok (nt := 60) (c := (sel [1, 1, 0, 1, 0, 0] (Try.f40.body.getD .skip))) (C := R07_errors_C R k) (an := An) (t := (.seq (.seq (.reg [0, 1, 2, 7, 15] []) (.cond .leaf .leaf)) (.seq (.node (.seq (.reg [0, 1, 2, 7, 23] []) (.cond (.seq (.reg [6] []) .leaf) .leaf))) (.reg [0, 1, 2, 7] [])))) (ic := R07_errors_i0) (R07_errors_S R k) (R07_errors_J R k) (by kernel_rfl) (And.intro (And.intro True.intro (And.intro True.intro True.intro)) (And.intro (And.intro True.intro (And.intro (And.intro True.intro True.intro) True.intro)) True.intro)) (R07_errors_a0 R k) (fun vals H K => by unfold R07_errors_a0 R07_errors_aa0; split <;> rfl)
    (fun n vals H K r h => by
      unfold R07_errors_a0 R07_errors_aa0 at h
      split at h <;> first | (cases h; done) | exact Eq.trans (R07_errors_e0 R07_ValidKind R02_Valid (R02_Bounded k) (R07_errors_l0 k) (R07_errors_p1 k) (R07_errors_l2 k) k n _ _ _ _ _ _ H K) h) k
def R07_errors_ca {R : Type} (f : Int → Option Addr → Nat → Nat → Int → Heap → (Int → Heap → Option R) → Option R) (args : List Value) (H : Heap) (K : Value → Heap → Option R) : Option R :=
  match args with
  | [.int .i64 n121, .slice q122 l123 c124, .int .i64 n125] => f n121 q122 l123 c124 n125 H (fun n1175 H => K (.int .i64 n1175) H)
  | _ => none
def R07_errors_c (R : Type) (k : Nat) (args : List Value) (H : Heap) (K : Value → Heap → Option R) : Option R := R07_errors_ca (R07_errors k) args H K
theorem R07_errors_e {R : Type} (R07_ValidKind : Int → (Bool → Option R) → Option R) (R02_Valid : Int → Int → Int → Int → Option Addr → Nat → Nat → Heap → (Bool → Heap → Option R) → Option R) (R02_Bounded : Int → Int → Int → Int → Option Addr → Nat → Nat → Int → Heap → (Bool → Heap → Option R) → Option R) (R07_errors_l0 : (Int → Option Addr → Nat → Nat → Int → Heap → Option R) → (Int → Heap → Option R) → Nat → Int → Option Addr → Nat → Nat → Int → Int → Heap → Option R) (R07_errors_p1 : Option Addr → Nat → Nat → Int → Heap → (Option Addr → Nat → Nat → Int → Option R) → (Int → Option R) → Option R) (R07_errors_l2 : (Heap → Option R) → (Int → Heap → Option R) → Nat → Option Addr → Nat → Nat → Int → Int → Heap → Option R) (k : Nat) (n121 : Int) (q122 : Option Addr) (l123 : Nat) (c124 : Nat) (n125 : Int) (H : Heap) (K : Value → Heap → Option R) : evF (R07_errors_Ct R07_ValidKind R02_Valid R02_Bounded) (R07_errors_Jt k R07_errors_l0 R07_errors_p1 R07_errors_l2) R07_errors_f [.int .i64 n121, .slice q122 l123 c124, .int .i64 n125] H K = R07_errors_b R07_ValidKind R07_errors_l0 R07_errors_p1 R07_errors_l2 k n121 q122 l123 c124 n125 H (fun n1175 H => K (.int .i64 n1175) H) := by kernel_rfl
theorem R07_errors_cs (R : Type) (k : Nat) : ∀ args H K r, R07_errors_c R k args H K = some r → ∃ v H', Tri Try.prog 40 args H v H' ∧ K v H' = some r := by
  intro args H K r h
  unfold R07_errors_c R07_errors_ca at h
  split at h
  · exact evF_ok (C := R07_errors_C R k) (an := An) (t := R07_errors_at) (fn := Try.f40) (c := (Try.f40.body.getD .skip)) (ifn := R07_errors_f) (R07_errors_S R k) (R07_errors_J R k) Try.func40 (by kernel_rfl) (by kernel_rfl) (And.intro True.intro (And.intro (And.intro True.intro (And.intro (And.intro True.intro True.intro) True.intro)) (And.intro (And.intro True.intro (R07_errors_j0 k)) (And.intro (And.intro True.intro (And.intro (And.intro True.intro True.intro) True.intro)) (And.intro (And.intro True.intro (And.intro (And.intro True.intro True.intro) True.intro)) (And.intro (R07_errors_j1 k) (And.intro (And.intro True.intro (R07_errors_j2 k)) (And.intro True.intro True.intro)))))))) rfl (Eq.trans (R07_errors_e R07_ValidKind R02_Valid (R02_Bounded k) (R07_errors_l0 k) (R07_errors_p1 k) (R07_errors_l2 k) k _ _ _ _ _ H K) h)
  · cases h
/-! ### R07_each: function 41 -/
def R07_each_l0_b {R : Type} (rec : Int → Option Addr → Nat → Nat → Bool → Option Addr → Nat → Nat → Int → Heap → Option R) (KE0 : Int → Option Addr → Nat → Nat → Bool → Option Addr → Nat → Nat → Heap → Option R) (k : Nat) (n222 : Int) (q223 : Option Addr) (l224 : Nat) (c225 : Nat) (t226 : Bool) (q227 : Option Addr) (l228 : Nat) (c229 : Nat) (n230 : Int) (H : Heap) : Option R :=
bif decide (n230 < ((l224 : Nat) : Int)) then (hidx q223 l224 n230 5 fun p231 =>
hfad 0 p231 fun p232 =>
ldI .i64 H (pad p232 0) fun n233 =>
ldI .i64 H (pad p232 1) fun n234 =>
ldI .i64 H (pad p232 2) fun n235 =>
ldI .i64 H (pad p232 3) fun n236 =>
hal H [] fun p237 H238 =>
hidx q223 l224 n230 5 fun p239 =>
hfad 4 p239 fun p240 =>
ldL H238 p240 fun q241 l242 c243 =>
hapnS 1 8 H238 p237 0 0 q241 l242 fun q244 l245 c246 H247 =>
hal H247 [.int .i64 n233, .int .i64 n234, .int .i64 n235, .int .i64 n236, .slice q244 l245 c246] fun p248 H249 =>
happS 5 56 H249 q227 l228 c229 p248 1 fun q250 l251 c252 H253 =>
rec n222 q223 l224 c225 t226 q250 l251 c252 (IntKind.wrap .i64 (n230 + 1)) H253)
 else (KE0 n222 q223 l224 c225 t226 q227 l228 c229 H)
def R07_each_l0 {R : Type} (k : Nat) (KE0 : Int → Option Addr → Nat → Nat → Bool → Option Addr → Nat → Nat → Heap → Option R) : Nat → Int → Option Addr → Nat → Nat → Bool → Option Addr → Nat → Nat → Int → Heap → Option R
  | 0, _, _, _, _, _, _, _, _, _, _ => none
  | n + 1, n222, q223, l224, c225, t226, q227, l228, c229, n230, H => R07_each_l0_b (R07_each_l0 k KE0 n) KE0 k n222 q223 l224 c225 t226 q227 l228 c229 n230 H

def R07_each_p2_b {R : Type} (R07_Inverse : Int → Int → Int → Int → (Int → Int → Int → Option R) → Option R) (R07_Forward : Int → Int → Int → Int → (Int → Int → Int → Option R) → Option R) (k : Nat) (n306 : Int) (q307 : Option Addr) (l308 : Nat) (c309 : Nat) (t310 : Bool) (q311 : Option Addr) (l312 : Nat) (c313 : Nat) (n314 : Int) (n315 : Int) (n316 : Int) (n317 : Int) (KN : Int → Option Addr → Nat → Nat → Bool → Option Addr → Nat → Nat → Int → Int → Int → Int → Option R) : Option R :=
bif t310 then (R07_Inverse n306 n315 n316 n317 fun n318 n319 n320 =>
KN n306 q307 l308 c309 t310 q311 l312 c313 n314 n318 n319 n320)
 else (R07_Forward n306 n315 n316 n317 fun n321 n322 n323 =>
KN n306 q307 l308 c309 t310 q311 l312 c313 n314 n321 n322 n323)
def R07_each_p2 {R : Type} (k : Nat) (n306 : Int) (q307 : Option Addr) (l308 : Nat) (c309 : Nat) (t310 : Bool) (q311 : Option Addr) (l312 : Nat) (c313 : Nat) (n314 : Int) (n315 : Int) (n316 : Int) (n317 : Int) (KN : Int → Option Addr → Nat → Nat → Bool → Option Addr → Nat → Nat → Int → Int → Int → Int → Option R) : Option R := R07_each_p2_b R07_Inverse R07_Forward k n306 q307 l308 c309 t310 q311 l312 c313 n314 n315 n316 n317 KN

def R07_each_l1_b {R : Type} (R07_each_p2 : Int → Option Addr → Nat → Nat → Bool → Option Addr → Nat → Nat → Int → Int → Int → Int → (Int → Option Addr → Nat → Nat → Bool → Option Addr → Nat → Nat → Int → Int → Int → Int → Option R) → Option R) (rec : Int → Option Addr → Nat → Nat → Bool → Option Addr → Nat → Nat → Int → Heap → Option R) (KE2 : Option Addr → Nat → Nat → Heap → Option R) (k : Nat) (n271 : Int) (q272 : Option Addr) (l273 : Nat) (c274 : Nat) (t275 : Bool) (q276 : Option Addr) (l277 : Nat) (c278 : Nat) (n279 : Int) (H : Heap) : Option R :=
hidx q272 l273 0 5 fun p280 =>
hfad 4 p280 fun p281 =>
ldL H p281 fun q282 l283 c284 =>
bif decide (n279 < ((l283 : Nat) : Int)) then (hidx q272 l273 0 5 fun p285 =>
hfad 4 p285 fun p286 =>
ldL H p286 fun q287 l288 c289 =>
hidx q287 l288 n279 1 fun p290 =>
ldI .i64 H p290 fun n291 =>
hidx q272 l273 1 5 fun p292 =>
hfad 4 p292 fun p293 =>
ldL H p293 fun q294 l295 c296 =>
hidx q294 l295 n279 1 fun p297 =>
ldI .i64 H p297 fun n298 =>
hidx q272 l273 2 5 fun p299 =>
hfad 4 p299 fun p300 =>
ldL H p300 fun q301 l302 c303 =>
hidx q301 l302 n279 1 fun p304 =>
ldI .i64 H p304 fun n305 =>
R07_each_p2 n271 q272 l273 c274 t275 q276 l277 c278 n279 n291 n298 n305 (fun n336 q337 l338 c339 t340 q341 l342 c343 n344 n345 n346 n347 =>
hidx q341 l342 0 5 fun p348 =>
hfad 4 p348 fun p349 =>
ldL H p349 fun q350 l351 c352 =>
hidx q350 l351 n344 1 fun p353 =>
hst1 H p353 (.int .i64 n345) fun H354 =>
hidx q341 l342 1 5 fun p355 =>
hfad 4 p355 fun p356 =>
ldL H354 p356 fun q357 l358 c359 =>
hidx q357 l358 n344 1 fun p360 =>
hst1 H354 p360 (.int .i64 n346) fun H361 =>
hidx q341 l342 2 5 fun p362 =>
hfad 4 p362 fun p363 =>
ldL H361 p363 fun q364 l365 c366 =>
hidx q364 l365 n344 1 fun p367 =>
hst1 H361 p367 (.int .i64 n347) fun H368 =>
rec n336 q337 l338 c339 t340 q341 l342 c343 (IntKind.wrap .i64 (n344 + 1)) H368))
 else (KE2 q276 l277 c278 H)
def R07_each_l1 {R : Type} (k : Nat) (KE2 : Option Addr → Nat → Nat → Heap → Option R) : Nat → Int → Option Addr → Nat → Nat → Bool → Option Addr → Nat → Nat → Int → Heap → Option R
  | 0, _, _, _, _, _, _, _, _, _, _ => none
  | n + 1, n271, q272, l273, c274, t275, q276, l277, c278, n279, H => R07_each_l1_b (R07_each_p2 k) (R07_each_l1 k KE2 n) KE2 k n271 q272 l273 c274 t275 q276 l277 c278 n279 H

def R07_each_b {R : Type} (R07_each_l0 : (Int → Option Addr → Nat → Nat → Bool → Option Addr → Nat → Nat → Heap → Option R) → Nat → Int → Option Addr → Nat → Nat → Bool → Option Addr → Nat → Nat → Int → Heap → Option R) (R07_each_l1 : (Option Addr → Nat → Nat → Heap → Option R) → Nat → Int → Option Addr → Nat → Nat → Bool → Option Addr → Nat → Nat → Int → Heap → Option R) (k : Nat) (n217 : Int) (q218 : Option Addr) (l219 : Nat) (c220 : Nat) (t221 : Bool) (H : Heap) (K : Option Addr → Nat → Nat → Heap → Option R) : Option R :=
R07_each_l0 (fun n262 q263 l264 c265 t266 q267 l268 c269 H270 =>
bif (n262 == 0) then (K q267 l268 c269 H270)
 else (R07_each_l1 (fun q372 l373 c374 H375 =>
K q372 l373 c374 H375) k n262 q263 l264 c265 t266 q267 l268 c269 0 H270)) k n217 q218 l219 c220 t221 none 0 0 0 H

def R07_each {R : Type} (k : Nat) (n217 : Int) (q218 : Option Addr) (l219 : Nat) (c220 : Nat) (t221 : Bool) (H : Heap) (K : Option Addr → Nat → Nat → Heap → Option R) : Option R := R07_each_b (R07_each_l0 k) (R07_each_l1 k) k n217 q218 l219 c220 t221 H K

def R07_each_Ct {R : Type} (R07_Inverse : Int → Int → Int → Int → (Int → Int → Int → Option R) → Option R) (R07_Forward : Int → Int → Int → Int → (Int → Int → Int → Option R) → Option R) : Tab R := tcons 16 (R07_Inverse_ca R07_Inverse) <| tcons 14 (R07_Forward_ca R07_Forward) <| fun _ _ _ _ => none
def R07_each_C (R : Type) (k : Nat) : Tab R := R07_each_Ct R07_Inverse R07_Forward
theorem R07_each_S (R : Type) (k : Nat) : CSound Try.prog (R07_each_C R k) := csound_cons (R07_Inverse_cs R k) <| csound_cons (R07_Forward_cs R k) <| csound_nil
def R07_each_aa0 {R : Type} (f : (Int → Option Addr → Nat → Nat → Bool → Option Addr → Nat → Nat → Heap → Option R) → Nat → Int → Option Addr → Nat → Nat → Bool → Option Addr → Nat → Nat → Int → Heap → Option R) (n : Nat) (vals : List Value) (H : Heap) (K : Xit → Env → Heap → Option R) : Option R :=
  match vals with
  | [.int .i64 n222, .slice q223 l224 c225, .bool t226, .slice q227 l228 c229, .int .i64 n230] => f (fun n1176 q1177 l1178 c1179 t1180 q1181 l1182 c1183 H => K (.exit 0) [(0, .int .i64 n1176), (1, .slice q1177 l1178 c1179), (2, .bool t1180), (7, .slice q1181 l1182 c1183)] H) n n222 q223 l224 c225 t226 q227 l228 c229 n230 H
  | _ => none
def R07_each_a0 (R : Type) (k n : Nat) (vals : List Value) (H : Heap) (K : Xit → Env → Heap → Option R) : Option R := R07_each_aa0 (R07_each_l0 k) n vals H K
def R07_each_aa1 {R : Type} (f : (Option Addr → Nat → Nat → Heap → Option R) → Nat → Int → Option Addr → Nat → Nat → Bool → Option Addr → Nat → Nat → Int → Heap → Option R) (n : Nat) (vals : List Value) (H : Heap) (K : Xit → Env → Heap → Option R) : Option R :=
  match vals with
  | [.int .i64 n271, .slice q272 l273 c274, .bool t275, .slice q276 l277 c278, .int .i64 n279] => f (fun q1184 l1185 c1186 H => K (.exit 2) [(7, .slice q1184 l1185 c1186)] H) n n271 q272 l273 c274 t275 q276 l277 c278 n279 H
  | _ => none
def R07_each_a1 (R : Type) (k n : Nat) (vals : List Value) (H : Heap) (K : Xit → Env → Heap → Option R) : Option R := R07_each_aa1 (R07_each_l1 k) n vals H K
def R07_each_aa2 {R : Type} (f : Int → Option Addr → Nat → Nat → Bool → Option Addr → Nat → Nat → Int → Int → Int → Int → (Int → Option Addr → Nat → Nat → Bool → Option Addr → Nat → Nat → Int → Int → Int → Int → Option R) → Option R) (n : Nat) (vals : List Value) (H : Heap) (K : Xit → Env → Heap → Option R) : Option R :=
  match vals with
  | [.int .i64 n306, .slice q307 l308 c309, .bool t310, .slice q311 l312 c313, .int .i64 n314, .int .i64 n315, .int .i64 n316, .int .i64 n317] => f n306 q307 l308 c309 t310 q311 l312 c313 n314 n315 n316 n317 (fun n1187 q1188 l1189 c1190 t1191 q1192 l1193 c1194 n1195 n1196 n1197 n1198 => K .normal [(0, .int .i64 n1187), (1, .slice q1188 l1189 c1190), (2, .bool t1191), (7, .slice q1192 l1193 c1194), (9, .int .i64 n1195), (10, .int .i64 n1196), (11, .int .i64 n1197), (12, .int .i64 n1198)] H)
  | _ => none
def R07_each_a2 (R : Type) (k n : Nat) (vals : List Value) (H : Heap) (K : Xit → Env → Heap → Option R) : Option R := R07_each_aa2 (R07_each_p2 k) n vals H K
def R07_each_Jt {R : Type} (k : Nat) (R07_each_l0 : (Int → Option Addr → Nat → Nat → Bool → Option Addr → Nat → Nat → Heap → Option R) → Nat → Int → Option Addr → Nat → Nat → Bool → Option Addr → Nat → Nat → Int → Heap → Option R) (R07_each_l1 : (Option Addr → Nat → Nat → Heap → Option R) → Nat → Int → Option Addr → Nat → Nat → Bool → Option Addr → Nat → Nat → Int → Heap → Option R) (R07_each_p2 : Int → Option Addr → Nat → Nat → Bool → Option Addr → Nat → Nat → Int → Int → Int → Int → (Int → Option Addr → Nat → Nat → Bool → Option Addr → Nat → Nat → Int → Int → Int → Int → Option R) → Option R) : JTab R := tcons 0 (R07_each_aa0 R07_each_l0 k) <| tcons 1 (R07_each_aa1 R07_each_l1 k) <| tcons 2 (R07_each_aa2 R07_each_p2 k) <| fun _ _ _ _ => none
def R07_each_J (R : Type) (k : Nat) : JTab R := R07_each_Jt k (R07_each_l0 k) (R07_each_l1 k) (R07_each_p2 k)
def R07_each_at : AT := (.seq (.reg [0, 1, 2] []) (.seq (.reg [0, 1, 2, 7] []) (.seq (.seq (.reg [0, 1, 2, 7, 8] []) (.node (.opq 0 [0, 1, 2, 7, 8] ⟨[], [(0, [0, 1, 2, 7])], []⟩ (.node (.seq (.seq (.reg [0, 1, 2, 7, 8, 16] []) (.cond .leaf .leaf)) (.seq (.node (.reg [0, 1, 2, 7, 8] [[], [], [], [1, 2], [1, 2, 3], [1, 2, 3, 4], [], [], [], [7, 8], [7, 8, 9], [7, 8, 9, 10], [6, 7, 8, 9, 10, 11], [1, 2, 3, 4, 5, 6, 7, 8, 9, 10, 11, 12], [1, 2, 3, 4, 5, 6, 7, 8, 9, 10, 11, 12, 13], [0, 1, 2, 3, 4, 5, 6, 7, 8, 9, 10, 11, 12, 13, 14], [0, 1, 2, 3, 4, 5, 6, 7, 8, 9, 10, 11, 12, 13, 14, 15]])) (.reg [0, 1, 2, 7, 8] []))))))) (.seq (.seq (.reg [0, 1, 2, 7, 36] []) (.cond (.seq (.reg [6] []) .leaf) .leaf)) (.seq (.seq (.reg [0, 1, 2, 7, 9] []) (.node (.opq 1 [0, 1, 2, 7, 9] ⟨[], [(2, [7])], []⟩ (.node (.seq (.seq (.reg [0, 1, 2, 7, 9, 44] []) (.cond .leaf .leaf)) (.seq (.node (.seq (.reg [0, 1, 2, 7, 9, 10] []) (.seq (.reg [0, 1, 2, 7, 9, 10, 11] []) (.seq (.reg [0, 1, 2, 7, 9, 10, 11, 12] []) (.seq (.opq 2 [0, 1, 2, 7, 9, 10, 11, 12] ⟨[0, 1, 2, 7, 9, 10, 11, 12], [], []⟩ (.seq (.reg [0, 1, 2, 7, 9, 10, 11, 12, 68] []) (.cond (.reg [0, 1, 2, 7, 9, 10, 11, 12] []) (.reg [0, 1, 2, 7, 9, 10, 11, 12] [])))) (.seq (.reg [0, 1, 2, 7, 9, 11, 12] []) (.seq (.reg [0, 1, 2, 7, 9, 12] []) (.reg [0, 1, 2, 7, 9] [])))))))) (.reg [0, 1, 2, 7, 9] []))))))) (.seq (.reg [6] []) .leaf))))))
def R07_each_i2 : IC := (.seq (.reg [⟨some 68, .mov (.t 2), none⟩] [0, 1, 2, 7, 9, 10, 11, 12, 68]) (.cond (.t 68) (.reg [⟨some 70, .mov (.t 0), none⟩,
 ⟨some 71, .mov (.t 10), none⟩,
 ⟨some 72, .mov (.t 11), none⟩,
 ⟨some 73, .mov (.t 12), none⟩,
 ⟨some 74, .call 16 [(.t 70), (.t 71), (.t 72), (.t 73)] (.tup [(.sc (.int .i64)), (.sc (.int .i64)), (.sc (.int .i64))]), none⟩,
 ⟨some 69, .mov (.t 74), none⟩,
 ⟨some 75, .ext 0 (.t 69), none⟩,
 ⟨some 76, .ext 1 (.t 69), none⟩,
 ⟨some 77, .ext 2 (.t 69), none⟩,
 ⟨some 10, .mov (.t 75), none⟩,
 ⟨some 11, .mov (.t 76), none⟩,
 ⟨some 12, .mov (.t 77), none⟩] [0, 1, 2, 7, 9, 10, 11, 12]) (.reg [⟨some 79, .mov (.t 0), none⟩,
 ⟨some 80, .mov (.t 10), none⟩,
 ⟨some 81, .mov (.t 11), none⟩,
 ⟨some 82, .mov (.t 12), none⟩,
 ⟨some 83, .call 14 [(.t 79), (.t 80), (.t 81), (.t 82)] (.tup [(.sc (.int .i64)), (.sc (.int .i64)), (.sc (.int .i64))]), none⟩,
 ⟨some 78, .mov (.t 83), none⟩,
 ⟨some 84, .ext 0 (.t 78), none⟩,
 ⟨some 85, .ext 1 (.t 78), none⟩,
 ⟨some 86, .ext 2 (.t 78), none⟩,
 ⟨some 10, .mov (.t 84), none⟩,
 ⟨some 11, .mov (.t 85), none⟩,
 ⟨some 12, .mov (.t 86), none⟩] [0, 1, 2, 7, 9, 10, 11, 12])))
def R07_each_i1 : IC := (.seq (.seq (.reg [⟨some 38, .mov (.t 9), none⟩,
 ⟨some 39, .mov (.t 1), none⟩,
 ⟨some 40, .ids 5 (.t 39) (.c (Go.Value.int Go.IntKind.i64 0)), none⟩,
 ⟨some 41, .fad 4 (.t 40), none⟩,
 ⟨some 42, .ld (.sc .slc) (.t 41), none⟩,
 ⟨some 43, .len false (.t 42), none⟩,
 ⟨some 44, .cmp .lss (.t 38) (.t 43), none⟩] [0, 1, 2, 7, 9, 44]) (.cond (.t 44) .skip (.exit 2))) (.seq (.block 3 (.seq (.reg [⟨some 47, .mov (.t 1), none⟩,
 ⟨some 48, .ids 5 (.t 47) (.c (Go.Value.int Go.IntKind.i64 0)), none⟩,
 ⟨some 49, .fad 4 (.t 48), none⟩,
 ⟨some 50, .ld (.sc .slc) (.t 49), none⟩,
 ⟨some 51, .mov (.t 9), none⟩,
 ⟨some 52, .ids 1 (.t 50) (.t 51), none⟩,
 ⟨some 53, .ld (.sc (.int .i64)) (.t 52), none⟩,
 ⟨some 10, .mov (.t 53), none⟩] [0, 1, 2, 7, 9, 10]) (.seq (.reg [⟨some 54, .mov (.t 1), none⟩,
 ⟨some 55, .ids 5 (.t 54) (.c (Go.Value.int Go.IntKind.i64 1)), none⟩,
 ⟨some 56, .fad 4 (.t 55), none⟩,
 ⟨some 57, .ld (.sc .slc) (.t 56), none⟩,
 ⟨some 58, .mov (.t 9), none⟩,
 ⟨some 59, .ids 1 (.t 57) (.t 58), none⟩,
 ⟨some 60, .ld (.sc (.int .i64)) (.t 59), none⟩,
 ⟨some 11, .mov (.t 60), none⟩] [0, 1, 2, 7, 9, 10, 11]) (.seq (.reg [⟨some 61, .mov (.t 1), none⟩,
 ⟨some 62, .ids 5 (.t 61) (.c (Go.Value.int Go.IntKind.i64 2)), none⟩,
 ⟨some 63, .fad 4 (.t 62), none⟩,
 ⟨some 64, .ld (.sc .slc) (.t 63), none⟩,
 ⟨some 65, .mov (.t 9), none⟩,
 ⟨some 66, .ids 1 (.t 64) (.t 65), none⟩,
 ⟨some 67, .ld (.sc (.int .i64)) (.t 66), none⟩,
 ⟨some 12, .mov (.t 67), none⟩] [0, 1, 2, 7, 9, 10, 11, 12]) (.seq (.opq 2 [0, 1, 2, 7, 9, 10, 11, 12] R07_each_i2) (.seq (.reg [⟨some 87, .mov (.t 7), none⟩,
 ⟨some 88, .ids 5 (.t 87) (.c (Go.Value.int Go.IntKind.i64 0)), none⟩,
 ⟨some 89, .fad 4 (.t 88), none⟩,
 ⟨some 90, .ld (.sc .slc) (.t 89), none⟩,
 ⟨some 91, .mov (.t 9), none⟩,
 ⟨some 92, .mov (.t 10), none⟩,
 ⟨some 93, .ids 1 (.t 90) (.t 91), none⟩,
 ⟨none, .st 1 (.t 93) (.t 92), none⟩] [0, 1, 2, 7, 9, 11, 12]) (.seq (.reg [⟨some 94, .mov (.t 7), none⟩,
 ⟨some 95, .ids 5 (.t 94) (.c (Go.Value.int Go.IntKind.i64 1)), none⟩,
 ⟨some 96, .fad 4 (.t 95), none⟩,
 ⟨some 97, .ld (.sc .slc) (.t 96), none⟩,
 ⟨some 98, .mov (.t 9), none⟩,
 ⟨some 99, .mov (.t 11), none⟩,
 ⟨some 100, .ids 1 (.t 97) (.t 98), none⟩,
 ⟨none, .st 1 (.t 100) (.t 99), none⟩] [0, 1, 2, 7, 9, 12]) (.reg [⟨some 101, .mov (.t 7), none⟩,
 ⟨some 102, .ids 5 (.t 101) (.c (Go.Value.int Go.IntKind.i64 2)), none⟩,
 ⟨some 103, .fad 4 (.t 102), none⟩,
 ⟨some 104, .ld (.sc .slc) (.t 103), none⟩,
 ⟨some 105, .mov (.t 9), none⟩,
 ⟨some 106, .mov (.t 12), none⟩,
 ⟨some 107, .ids 1 (.t 104) (.t 105), none⟩,
 ⟨none, .st 1 (.t 107) (.t 106), none⟩] [0, 1, 2, 7, 9])))))))) (.reg [⟨some 45, .mov (.t 9), none⟩,
 ⟨some 46, .bin .add .i64 (.t 45) (.c (Go.Value.int Go.IntKind.i64 1)), none⟩,
 ⟨some 9, .mov (.t 46), none⟩] [0, 1, 2, 7, 9])))
def R07_each_i0 : IC := (.seq (.seq (.reg [⟨some 13, .mov (.t 8), none⟩,
 ⟨some 14, .mov (.t 1), none⟩,
 ⟨some 15, .len false (.t 14), none⟩,
 ⟨some 16, .cmp .lss (.t 13) (.t 15), none⟩] [0, 1, 2, 7, 8, 16]) (.cond (.t 16) .skip (.exit 0))) (.seq (.block 1 (.reg [⟨some 19, .mov (.t 7), none⟩,
 ⟨some 20, .mov (.t 1), none⟩,
 ⟨some 21, .mov (.t 8), none⟩,
 ⟨some 22, .ids 5 (.t 20) (.t 21), none⟩,
 ⟨some 23, .fad 0 (.t 22), none⟩,
 ⟨some 24, .ld (.agg [(.int .i64), (.int .i64), (.int .i64), (.int .i64)]) (.t 23), none⟩,
 ⟨some 25, .bls 0 [] [], none⟩,
 ⟨some 26, .mov (.t 1), none⟩,
 ⟨some 27, .mov (.t 8), none⟩,
 ⟨some 28, .ids 5 (.t 26) (.t 27), none⟩,
 ⟨some 29, .fad 4 (.t 28), none⟩,
 ⟨some 30, .ld (.sc .slc) (.t 29), none⟩,
 ⟨some 31, .apn [.int .i64 0] 8 (.t 25) (.t 30), none⟩,
 ⟨some 32, .bld [.int .i64 0, .int .i64 0, .int .i64 0, .int .i64 0, .slice none 0 0] [(0, 4, (.t 24)), (4, 1, (.t 31))], none⟩,
 ⟨some 33, .bls 1 [.int .i64 0, .int .i64 0, .int .i64 0, .int .i64 0, .slice none 0 0] [(0, 5, (.t 32))], none⟩,
 ⟨some 34, .app [.int .i64 0, .int .i64 0, .int .i64 0, .int .i64 0, .slice none 0 0] 56 (.t 19) (.t 33), none⟩,
 ⟨some 7, .mov (.t 34), none⟩] [0, 1, 2, 7, 8])) (.reg [⟨some 17, .mov (.t 8), none⟩,
 ⟨some 18, .bin .add .i64 (.t 17) (.c (Go.Value.int Go.IntKind.i64 1)), none⟩,
 ⟨some 8, .mov (.t 18), none⟩] [0, 1, 2, 7, 8])))
def R07_each_f : IFn := ⟨109, [.t 6], (.seq (.reg [⟨some 6, .mov (.c (Go.Value.slice none 0 0)), none⟩] [0, 1, 2]) (.seq (.reg [⟨some 7, .mov (.c (Go.Value.slice none 0 0)), none⟩] [0, 1, 2, 7]) (.seq (.seq (.reg [⟨some 8, .mov (.c (Go.Value.int Go.IntKind.i64 0)), none⟩] [0, 1, 2, 7, 8]) (.block 0 (.opq 0 [0, 1, 2, 7, 8] (.loop R07_each_i0)))) (.seq (.seq (.reg [⟨some 35, .mov (.t 0), none⟩,
 ⟨some 36, .cmp .eql (.t 35) (.c (Go.Value.int Go.IntKind.i64 0)), none⟩] [0, 1, 2, 7, 36]) (.cond (.t 36) (.seq (.reg [⟨some 37, .mov (.t 7), none⟩,
 ⟨some 6, .mov (.t 37), none⟩] [6]) .ret) .skip)) (.seq (.seq (.reg [⟨some 9, .mov (.c (Go.Value.int Go.IntKind.i64 0)), none⟩] [0, 1, 2, 7, 9]) (.block 2 (.opq 1 [0, 1, 2, 7, 9] (.loop R07_each_i1)))) (.seq (.reg [⟨some 108, .mov (.t 7), none⟩,
 ⟨some 6, .mov (.t 108), none⟩] [6]) .ret))))))⟩
theorem R07_each_e2 {R : Type} (R07_Inverse : Int → Int → Int → Int → (Int → Int → Int → Option R) → Option R) (R07_Forward : Int → Int → Int → Int → (Int → Int → Int → Option R) → Option R) (R07_each_l0 : (Int → Option Addr → Nat → Nat → Bool → Option Addr → Nat → Nat → Heap → Option R) → Nat → Int → Option Addr → Nat → Nat → Bool → Option Addr → Nat → Nat → Int → Heap → Option R) (R07_each_l1 : (Option Addr → Nat → Nat → Heap → Option R) → Nat → Int → Option Addr → Nat → Nat → Bool → Option Addr → Nat → Nat → Int → Heap → Option R) (R07_each_p2 : Int → Option Addr → Nat → Nat → Bool → Option Addr → Nat → Nat → Int → Int → Int → Int → (Int → Option Addr → Nat → Nat → Bool → Option Addr → Nat → Nat → Int → Int → Int → Int → Option R) → Option R) (k : Nat) (n306 : Int) (q307 : Option Addr) (l308 : Nat) (c309 : Nat) (t310 : Bool) (q311 : Option Addr) (l312 : Nat) (c313 : Nat) (n314 : Int) (n315 : Int) (n316 : Int) (n317 : Int) (H : Heap) (K : Xit → Env → Heap → Option R) : evJ (R07_each_Ct R07_Inverse R07_Forward) (R07_each_Jt k R07_each_l0 R07_each_l1 R07_each_p2) R07_each_i2 (List.zip [0, 1, 2, 7, 9, 10, 11, 12] [.int .i64 n306, .slice q307 l308 c309, .bool t310, .slice q311 l312 c313, .int .i64 n314, .int .i64 n315, .int .i64 n316, .int .i64 n317]) H (fun x e' H' => K x (clean e' ((⟨[0, 1, 2, 7, 9, 10, 11, 12], [], []⟩ : Out).of x)) H') = R07_each_p2_b R07_Inverse R07_Forward k n306 q307 l308 c309 t310 q311 l312 c313 n314 n315 n316 n317 (fun n1187 q1188 l1189 c1190 t1191 q1192 l1193 c1194 n1195 n1196 n1197 n1198 => K .normal [(0, .int .i64 n1187), (1, .slice q1188 l1189 c1190), (2, .bool t1191), (7, .slice q1192 l1193 c1194), (9, .int .i64 n1195), (10, .int .i64 n1196), (11, .int .i64 n1197), (12, .int .i64 n1198)] H) := by kernel_rfl
theorem R07_each_j2 {R : Type} (k : Nat) : JS Try.prog 109 (R07_each_a2 R k k) [0, 1, 2, 7, 9, 10, 11, 12] ⟨[0, 1, 2, 7, 9, 10, 11, 12], [], []⟩ (sel [1, 1, 1, 1, 0, 1, 0, 0, 1, 0, 0, 1, 1, 1, 0] (Try.f41.body.getD .skip)) :=
  piece_ok (nt := 109) (c := (sel [1, 1, 1, 1, 0, 1, 0, 0, 1, 0, 0, 1, 1, 1, 0] (Try.f41.body.getD .skip))) (C := R07_each_C R k) (an := An) (t := (.seq (.reg [0, 1, 2, 7, 9, 10, 11, 12, 68] []) (.cond (.reg [0, 1, 2, 7, 9, 10, 11, 12] []) (.reg [0, 1, 2, 7, 9, 10, 11, 12] [])))) (ic := R07_each_i2) (R07_each_S R k) (R07_each_J R k) (by kernel_rfl) (And.intro True.intro (And.intro True.intro True.intro)) (R07_each_a2 R k k)
    (fun vals H K r h => by
      unfold R07_each_a2 R07_each_aa2 at h
      split at h <;> first | (cases h; done) | exact Eq.trans (R07_each_e2 R07_Inverse R07_Forward (R07_each_l0 k) (R07_each_l1 k) (R07_each_p2 k) k _ _ _ _ _ _ _ _ _ _ _ _ H K) h)
theorem R07_each_e1 {R : Type} (R07_Inverse : Int → Int → Int → Int → (Int → Int → Int → Option R) → Option R) (R07_Forward : Int → Int → Int → Int → (Int → Int → Int → Option R) → Option R) (R07_each_l0 : (Int → Option Addr → Nat → Nat → Bool → Option Addr → Nat → Nat → Heap → Option R) → Nat → Int → Option Addr → Nat → Nat → Bool → Option Addr → Nat → Nat → Int → Heap → Option R) (R07_each_l1 : (Option Addr → Nat → Nat → Heap → Option R) → Nat → Int → Option Addr → Nat → Nat → Bool → Option Addr → Nat → Nat → Int → Heap → Option R) (R07_each_p2 : Int → Option Addr → Nat → Nat → Bool → Option Addr → Nat → Nat → Int → Int → Int → Int → (Int → Option Addr → Nat → Nat → Bool → Option Addr → Nat → Nat → Int → Int → Int → Int → Option R) → Option R) (k n : Nat) (n271 : Int) (q272 : Option Addr) (l273 : Nat) (c274 : Nat) (t275 : Bool) (q276 : Option Addr) (l277 : Nat) (c278 : Nat) (n279 : Int) (H : Heap) (K : Xit → Env → Heap → Option R) : evJ (R07_each_Ct R07_Inverse R07_Forward) (R07_each_Jt k R07_each_l0 R07_each_l1 R07_each_p2) R07_each_i1 (List.zip [0, 1, 2, 7, 9] [.int .i64 n271, .slice q272 l273 c274, .bool t275, .slice q276 l277 c278, .int .i64 n279]) H (fun x e' H' => match x with | .normal => R07_each_aa1 R07_each_l1 n ((clean e' [0, 1, 2, 7, 9]).map (·.2)) H' K | x => K x (clean e' ((⟨[], [(2, [7])], []⟩ : Out).of x)) H') = R07_each_l1_b R07_each_p2 (R07_each_l1 (fun q1184 l1185 c1186 H => K (.exit 2) [(7, .slice q1184 l1185 c1186)] H) n) (fun q1184 l1185 c1186 H => K (.exit 2) [(7, .slice q1184 l1185 c1186)] H) k n271 q272 l273 c274 t275 q276 l277 c278 n279 H := by kernel_rfl
theorem R07_each_j1 {R : Type} (k : Nat) : JS Try.prog 109 (R07_each_a1 R k k) [0, 1, 2, 7, 9] ⟨[], [(2, [7])], []⟩ (.loop (sel [1, 1, 1, 1, 0, 1, 0, 0] (Try.f41.body.getD .skip))) :=
  loop_ok (nt := 109) (c := (sel [1, 1, 1, 1, 0, 1, 0, 0] (Try.f41.body.getD .skip))) (C := R07_each_C R k) (an := An) (t := (.seq (.seq (.reg [0, 1, 2, 7, 9, 44] []) (.cond .leaf .leaf)) (.seq (.node (.seq (.reg [0, 1, 2, 7, 9, 10] []) (.seq (.reg [0, 1, 2, 7, 9, 10, 11] []) (.seq (.reg [0, 1, 2, 7, 9, 10, 11, 12] []) (.seq (.opq 2 [0, 1, 2, 7, 9, 10, 11, 12] ⟨[0, 1, 2, 7, 9, 10, 11, 12], [], []⟩ (.seq (.reg [0, 1, 2, 7, 9, 10, 11, 12, 68] []) (.cond (.reg [0, 1, 2, 7, 9, 10, 11, 12] []) (.reg [0, 1, 2, 7, 9, 10, 11, 12] [])))) (.seq (.reg [0, 1, 2, 7, 9, 11, 12] []) (.seq (.reg [0, 1, 2, 7, 9, 12] []) (.reg [0, 1, 2, 7, 9] [])))))))) (.reg [0, 1, 2, 7, 9] [])))) (ic := R07_each_i1) (R07_each_S R k) (R07_each_J R k) (by kernel_rfl) (And.intro (And.intro True.intro (And.intro True.intro True.intro)) (And.intro (And.intro True.intro (And.intro True.intro (And.intro True.intro (And.intro (R07_each_j2 k) (And.intro True.intro (And.intro True.intro True.intro)))))) True.intro)) (R07_each_a1 R k) (fun vals H K => by unfold R07_each_a1 R07_each_aa1; split <;> rfl)
    (fun n vals H K r h => by
      unfold R07_each_a1 R07_each_aa1 at h
      split at h <;> first | (cases h; done) | exact Eq.trans (R07_each_e1 R07_Inverse R07_Forward (R07_each_l0 k) (R07_each_l1 k) (R07_each_p2 k) k n _ _ _ _ _ _ _ _ _ H K) h) k
theorem R07_each_e0 {R : Type} (R07_Inverse : Int → Int → Int → Int → (Int → Int → Int → Option R) → Option R) (R07_Forward : Int → Int → Int → Int → (Int → Int → Int → Option R) → Option R) (R07_each_l0 : (Int → Option Addr → Nat → Nat → Bool → Option Addr → Nat → Nat → Heap → Option R) → Nat → Int → Option Addr → Nat → Nat → Bool → Option Addr → Nat → Nat → Int → Heap → Option R) (R07_each_l1 : (Option Addr → Nat → Nat → Heap → Option R) → Nat → Int → Option Addr → Nat → Nat → Bool → Option Addr → Nat → Nat → Int → Heap → Option R) (R07_each_p2 : Int → Option Addr → Nat → Nat → Bool → Option Addr → Nat → Nat → Int → Int → Int → Int → (Int → Option Addr → Nat → Nat → Bool → Option Addr → Nat → Nat → Int → Int → Int → Int → Option R) → Option R) (k n : Nat) (n222 : Int) (q223 : Option Addr) (l224 : Nat) (c225 : Nat) (t226 : Bool) (q227 : Option Addr) (l228 : Nat) (c229 : Nat) (n230 : Int) (H : Heap) (K : Xit → Env → Heap → Option R) : evJ (R07_each_Ct R07_Inverse R07_Forward) (R07_each_Jt k R07_each_l0 R07_each_l1 R07_each_p2) R07_each_i0 (List.zip [0, 1, 2, 7, 8] [.int .i64 n222, .slice q223 l224 c225, .bool t226, .slice q227 l228 c229, .int .i64 n230]) H (fun x e' H' => match x with | .normal => R07_each_aa0 R07_each_l0 n ((clean e' [0, 1, 2, 7, 8]).map (·.2)) H' K | x => K x (clean e' ((⟨[], [(0, [0, 1, 2, 7])], []⟩ : Out).of x)) H') = R07_each_l0_b (R07_each_l0 (fun n1176 q1177 l1178 c1179 t1180 q1181 l1182 c1183 H => K (.exit 0) [(0, .int .i64 n1176), (1, .slice q1177 l1178 c1179), (2, .bool t1180), (7, .slice q1181 l1182 c1183)] H) n) (fun n1176 q1177 l1178 c1179 t1180 q1181 l1182 c1183 H => K (.exit 0) [(0, .int .i64 n1176), (1, .slice q1177 l1178 c1179), (2, .bool t1180), (7, .slice q1181 l1182 c1183)] H) k n222 q223 l224 c225 t226 q227 l228 c229 n230 H := by kernel_rfl
theorem R07_each_j0 {R : Type} (k : Nat) : JS Try.prog 109 (R07_each_a0 R k k) [0, 1, 2, 7, 8] ⟨[], [(0, [0, 1, 2, 7])], []⟩ (.loop (sel [1, 1, 0, 1, 0, 0] (Try.f41.body.getD .skip))) :=
  loop_ok (nt := 109) (c := (sel [1, 1, 0, 1, 0, 0] (Try.f41.body.getD .skip))) (C := R07_each_C R k) (an := An) (t := (.seq (.seq (.reg [0, 1, 2, 7, 8, 16] []) (.cond .leaf .leaf)) (.seq (.node (.reg [0, 1, 2, 7, 8] [[], [], [], [1, 2], [1, 2, 3], [1, 2, 3, 4], [], [], [], [7, 8], [7, 8, 9], [7, 8, 9, 10], [6, 7, 8, 9, 10, 11], [1, 2, 3, 4, 5, 6, 7, 8, 9, 10, 11, 12], [1, 2, 3, 4, 5, 6, 7, 8, 9, 10, 11, 12, 13], [0, 1, 2, 3, 4, 5, 6, 7, 8, 9, 10, 11, 12, 13, 14], [0, 1, 2, 3, 4, 5, 6, 7, 8, 9, 10, 11, 12, 13, 14, 15]])) (.reg [0, 1, 2, 7, 8] [])))) (ic := R07_each_i0) (R07_each_S R k) (R07_each_J R k) (by kernel_rfl) (And.intro (And.intro True.intro (And.intro True.intro True.intro)) (And.intro True.intro True.intro)) (R07_each_a0 R k) (fun vals H K => by unfold R07_each_a0 R07_each_aa0; split <;> rfl)
    (fun n vals H K r h => by
      unfold R07_each_a0 R07_each_aa0 at h
      split at h <;> first | (cases h; done) | exact Eq.trans (R07_each_e0 R07_Inverse R07_Forward (R07_each_l0 k) (R07_each_l1 k) (R07_each_p2 k) k n _ _ _ _ _ _ _ _ _ H K) h) k
def R07_each_ca {R : Type} (f : Int → Option Addr → Nat → Nat → Bool → Heap → (Option Addr → Nat → Nat → Heap → Option R) → Option R) (args : List Value) (H : Heap) (K : Value → Heap → Option R) : Option R :=
  match args with
  | [.int .i64 n217, .slice q218 l219 c220, .bool t221] => f n217 q218 l219 c220 t221 H (fun q1199 l1200 c1201 H => K (.slice q1199 l1200 c1201) H)
  | _ => none
def R07_each_c (R : Type) (k : Nat) (args : List Value) (H : Heap) (K : Value → Heap → Option R) : Option R := R07_each_ca (R07_each k) args H K
theorem R07_each_e {R : Type} (R07_Inverse : Int → Int → Int → Int → (Int → Int → Int → Option R) → Option R) (R07_Forward : Int → Int → Int → Int → (Int → Int → Int → Option R) → Option R) (R07_each_l0 : (Int → Option Addr → Nat → Nat → Bool → Option Addr → Nat → Nat → Heap → Option R) → Nat → Int → Option Addr → Nat → Nat → Bool → Option Addr → Nat → Nat → Int → Heap → Option R) (R07_each_l1 : (Option Addr → Nat → Nat → Heap → Option R) → Nat → Int → Option Addr → Nat → Nat → Bool → Option Addr → Nat → Nat → Int → Heap → Option R) (R07_each_p2 : Int → Option Addr → Nat → Nat → Bool → Option Addr → Nat → Nat → Int → Int → Int → Int → (Int → Option Addr → Nat → Nat → Bool → Option Addr → Nat → Nat → Int → Int → Int → Int → Option R) → Option R) (k : Nat) (n217 : Int) (q218 : Option Addr) (l219 : Nat) (c220 : Nat) (t221 : Bool) (H : Heap) (K : Value → Heap → Option R) : evF (R07_each_Ct R07_Inverse R07_Forward) (R07_each_Jt k R07_each_l0 R07_each_l1 R07_each_p2) R07_each_f [.int .i64 n217, .slice q218 l219 c220, .bool t221] H K = R07_each_b R07_each_l0 R07_each_l1 k n217 q218 l219 c220 t221 H (fun q1199 l1200 c1201 H => K (.slice q1199 l1200 c1201) H) := by kernel_rfl
theorem R07_each_cs (R : Type) (k : Nat) : ∀ args H K r, R07_each_c R k args H K = some r → ∃ v H', Tri Try.prog 41 args H v H' ∧ K v H' = some r := by
  intro args H K r h
  unfold R07_each_c R07_each_ca at h
  split at h
  · exact evF_ok (C := R07_each_C R k) (an := An) (t := R07_each_at) (fn := Try.f41) (c := (Try.f41.body.getD .skip)) (ifn := R07_each_f) (R07_each_S R k) (R07_each_J R k) Try.func41 (by kernel_rfl) (by kernel_rfl) (And.intro True.intro (And.intro True.intro (And.intro (And.intro True.intro (R07_each_j0 k)) (And.intro (And.intro True.intro (And.intro (And.intro True.intro True.intro) True.intro)) (And.intro (And.intro True.intro (R07_each_j1 k)) (And.intro True.intro True.intro)))))) rfl (Eq.trans (R07_each_e R07_Inverse R07_Forward (R07_each_l0 k) (R07_each_l1 k) (R07_each_p2 k) k _ _ _ _ _ H K) h)
  · cases h
end Go.Proofs.Ytoeoolnkndkefaa.Sh
