/- Lean functions that stand for Go's, over an explicit heap, and the proofs that they do (written by this claim's program shallow.py). -/
import Derived.Test.YtiapgcgpdndkiaaSh0
import Derived.Test.YtiapgcgpdndkiaaSh1
import Derived.Test.YtiapgcgpdndkiaaSh2
import Derived.Test.YtiapgcgpdndkiaaSh3
set_option maxRecDepth 100000
set_option linter.unusedVariables false
set_option linter.unusedSimpArgs false
namespace Go.Proofs.Ytiapgcgpdndkiaa.Sh
open Go.Proofs.Ytiapgcgpdndkiaa.FW
/-! ### L_BitioCanonical: function 5 -/
def L_BitioCanonical_p0_b {R : Type} (k : Nat) (q185 : Option Addr) (l186 : Nat) (c187 : Nat) (n188 : Int) (KN : Option Addr → Nat → Nat → Int → Bool → Option R) : Option R :=
bif decide (((l186 : Nat) : Int) > 500) then (KN q185 l186 c187 n188 true)
 else (bif decide (n188 < 0) then (KN q185 l186 c187 n188 true)
 else (KN q185 l186 c187 n188 (decide (n188 > 4000))))
def L_BitioCanonical_p0 {R : Type} (k : Nat) (q185 : Option Addr) (l186 : Nat) (c187 : Nat) (n188 : Int) (KN : Option Addr → Nat → Nat → Int → Bool → Option R) : Option R := L_BitioCanonical_p0_b k q185 l186 c187 n188 KN

def L_BitioCanonical_l1_b {R : Type} (bitio_Reader_Get : Option Addr → Heap → (Int → Int → Heap → Option R) → Option R) (bitio_Writer_Put : Option Addr → Int → Heap → (Int → Heap → Option R) → Option R) (rec : Option Addr → Nat → Nat → Int → Option Addr → Option Addr → Int → Heap → Option R) (KE0 : Option Addr → Nat → Nat → Option Addr → Option Addr → Heap → Option R) (KR : Bool → Heap → Option R) (k : Nat) (q204 : Option Addr) (l205 : Nat) (c206 : Nat) (n207 : Int) (p208 : Option Addr) (p209 : Option Addr) (n210 : Int) (H : Heap) : Option R :=
bif decide (n210 < n207) then (bitio_Reader_Get p208 H fun n211 n212 H213 =>
bif (n212 != 0) then (KE0 q204 l205 c206 p208 p209 H213)
 else (bitio_Writer_Put p209 n211 H213 fun n214 H215 =>
bif (n214 != 0) then (KR false H215)
 else (rec q204 l205 c206 n207 p208 p209 (IntKind.wrap .i64 (n210 + 1)) H215)))
 else (KE0 q204 l205 c206 p208 p209 H)
def L_BitioCanonical_l1 {R : Type} (k : Nat) (KE0 : Option Addr → Nat → Nat → Option Addr → Option Addr → Heap → Option R) (KR : Bool → Heap → Option R) : Nat → Option Addr → Nat → Nat → Int → Option Addr → Option Addr → Int → Heap → Option R
  | 0, _, _, _, _, _, _, _, _ => none
  | n + 1, q204, l205, c206, n207, p208, p209, n210, H => L_BitioCanonical_l1_b (bitio_Reader_Get k) (bitio_Writer_Put k) (L_BitioCanonical_l1 k KE0 KR n) KE0 KR k q204 l205 c206 n207 p208 p209 n210 H

def L_BitioCanonical_b {R : Type} (L_BitioCanonical_p0 : Option Addr → Nat → Nat → Int → (Option Addr → Nat → Nat → Int → Bool → Option R) → Option R) (L_exampleHoldsq : (Bool → Option R) → Option R) (bitio_NewReader : Option Addr → Nat → Nat → Heap → (Option Addr → Heap → Option R) → Option R) (bitio_NewWriter : Heap → (Option Addr → Heap → Option R) → Option R) (L_BitioCanonical_l1 : (Option Addr → Nat → Nat → Option Addr → Option Addr → Heap → Option R) → (Bool → Heap → Option R) → Nat → Option Addr → Nat → Nat → Int → Option Addr → Option Addr → Int → Heap → Option R) (bitio_Reader_Align : Option Addr → Heap → (Int → Int → Heap → Option R) → Option R) (bitio_Writer_Bytes : Option Addr → Heap → (Option Addr → Nat → Nat → Heap → Option R) → Option R) (R09_SameBytes : Option Addr → Nat → Nat → Option Addr → Nat → Nat → Heap → (Bool → Option R) → Option R) (k : Nat) (q181 : Option Addr) (l182 : Nat) (c183 : Nat) (n184 : Int) (H : Heap) (K : Bool → Heap → Option R) : Option R :=
L_BitioCanonical_p0 q181 l182 c183 n184 (fun q194 l195 c196 n197 t198 =>
bif t198 then (L_exampleHoldsq fun t199 =>
K t199 H)
 else (bitio_NewReader q194 l195 c196 H fun p200 H201 =>
bitio_NewWriter H201 fun p202 H203 =>
L_BitioCanonical_l1 (fun q222 l223 c224 p225 p226 H227 =>
bitio_Reader_Align p225 H227 fun n228 n229 H230 =>
bif (n229 != 0) then (bif (n228 == 0) then (L_exampleHoldsq fun t231 =>
K t231 H230)
 else (K false H230))
 else (bif decide (n228 ≥ 0) then (bif decide (n228 ≤ ((l223 : Nat) : Int)) then (bitio_Writer_Bytes p226 H230 fun q232 l233 c234 H235 =>
hslc 1 q222 l223 c224 none (some n228) none fun q236 l237 c238 =>
R09_SameBytes q232 l233 c234 q236 l237 c238 H235 fun t239 =>
bif t239 then (L_exampleHoldsq fun t240 =>
K t240 H235)
 else (K false H235))
 else (K false H230))
 else (K false H230))) (fun t241 H242 =>
K t241 H242) k q194 l195 c196 n197 p200 p202 0 H203))

def L_BitioCanonical {R : Type} (k : Nat) (q181 : Option Addr) (l182 : Nat) (c183 : Nat) (n184 : Int) (H : Heap) (K : Bool → Heap → Option R) : Option R := L_BitioCanonical_b (L_BitioCanonical_p0 k) L_exampleHoldsq bitio_NewReader bitio_NewWriter (L_BitioCanonical_l1 k) (bitio_Reader_Align k) (bitio_Writer_Bytes k) R09_SameBytes k q181 l182 c183 n184 H K

def L_BitioCanonical_Ct {R : Type} (L_exampleHoldsq : (Bool → Option R) → Option R) (bitio_NewReader : Option Addr → Nat → Nat → Heap → (Option Addr → Heap → Option R) → Option R) (bitio_NewWriter : Heap → (Option Addr → Heap → Option R) → Option R) (bitio_Reader_Get : Option Addr → Heap → (Int → Int → Heap → Option R) → Option R) (bitio_Writer_Put : Option Addr → Int → Heap → (Int → Heap → Option R) → Option R) (bitio_Reader_Align : Option Addr → Heap → (Int → Int → Heap → Option R) → Option R) (bitio_Writer_Bytes : Option Addr → Heap → (Option Addr → Nat → Nat → Heap → Option R) → Option R) (R09_SameBytes : Option Addr → Nat → Nat → Option Addr → Nat → Nat → Heap → (Bool → Option R) → Option R) : Tab R := tcons 11 (L_exampleHoldsq_ca L_exampleHoldsq) <| tcons 21 (bitio_NewReader_ca bitio_NewReader) <| tcons 12 (bitio_NewWriter_ca bitio_NewWriter) <| tcons 22 (bitio_Reader_Get_ca bitio_Reader_Get) <| tcons 23 (bitio_Writer_Put_ca bitio_Writer_Put) <| tcons 24 (bitio_Reader_Align_ca bitio_Reader_Align) <| tcons 19 (bitio_Writer_Bytes_ca bitio_Writer_Bytes) <| tcons 18 (R09_SameBytes_ca R09_SameBytes) <| fun _ _ _ _ => none
def L_BitioCanonical_C (R : Type) (k : Nat) : Tab R := L_BitioCanonical_Ct L_exampleHoldsq bitio_NewReader bitio_NewWriter (bitio_Reader_Get k) (bitio_Writer_Put k) (bitio_Reader_Align k) (bitio_Writer_Bytes k) R09_SameBytes
theorem L_BitioCanonical_S (R : Type) (k : Nat) : CSound Try.prog (L_BitioCanonical_C R k) := csound_cons (L_exampleHoldsq_cs R k) <| csound_cons (bitio_NewReader_cs R k) <| csound_cons (bitio_NewWriter_cs R k) <| csound_cons (bitio_Reader_Get_cs R k) <| csound_cons (bitio_Writer_Put_cs R k) <| csound_cons (bitio_Reader_Align_cs R k) <| csound_cons (bitio_Writer_Bytes_cs R k) <| csound_cons (R09_SameBytes_cs R k) <| csound_nil
def L_BitioCanonical_aa0 {R : Type} (f : Option Addr → Nat → Nat → Int → (Option Addr → Nat → Nat → Int → Bool → Option R) → Option R) (n : Nat) (vals : List Value) (H : Heap) (K : Xit → Env → Heap → Option R) : Option R :=
  match vals with
  | [.slice q185 l186 c187, .int .i64 n188] => f q185 l186 c187 n188 (fun q1106 l1107 c1108 n1109 t1110 => K .normal [(0, .slice q1106 l1107 c1108), (1, .int .i64 n1109), (22, .bool t1110)] H)
  | _ => none
def L_BitioCanonical_a0 (R : Type) (k n : Nat) (vals : List Value) (H : Heap) (K : Xit → Env → Heap → Option R) : Option R := L_BitioCanonical_aa0 (L_BitioCanonical_p0 k) n vals H K
def L_BitioCanonical_aa1 {R : Type} (f : (Option Addr → Nat → Nat → Option Addr → Option Addr → Heap → Option R) → (Bool → Heap → Option R) → Nat → Option Addr → Nat → Nat → Int → Option Addr → Option Addr → Int → Heap → Option R) (n : Nat) (vals : List Value) (H : Heap) (K : Xit → Env → Heap → Option R) : Option R :=
  match vals with
  | [.slice q204 l205 c206, .int .i64 n207, .pointer p208, .pointer p209, .int .i64 n210] => f (fun q1111 l1112 c1113 p1114 p1115 H => K (.exit 0) [(0, .slice q1111 l1112 c1113), (5, .pointer p1114), (6, .pointer p1115)] H) (fun t1116 H => K .ret [(4, .bool t1116)] H) n q204 l205 c206 n207 p208 p209 n210 H
  | _ => none
def L_BitioCanonical_a1 (R : Type) (k n : Nat) (vals : List Value) (H : Heap) (K : Xit → Env → Heap → Option R) : Option R := L_BitioCanonical_aa1 (L_BitioCanonical_l1 k) n vals H K
def L_BitioCanonical_Jt {R : Type} (k : Nat) (L_BitioCanonical_p0 : Option Addr → Nat → Nat → Int → (Option Addr → Nat → Nat → Int → Bool → Option R) → Option R) (L_BitioCanonical_l1 : (Option Addr → Nat → Nat → Option Addr → Option Addr → Heap → Option R) → (Bool → Heap → Option R) → Nat → Option Addr → Nat → Nat → Int → Option Addr → Option Addr → Int → Heap → Option R) : JTab R := tcons 0 (L_BitioCanonical_aa0 L_BitioCanonical_p0 k) <| tcons 1 (L_BitioCanonical_aa1 L_BitioCanonical_l1 k) <| fun _ _ _ _ => none
def L_BitioCanonical_J (R : Type) (k : Nat) : JTab R := L_BitioCanonical_Jt k (L_BitioCanonical_p0 k) (L_BitioCanonical_l1 k)
def L_BitioCanonical_at : AT := (.seq (.reg [0, 1] []) (.seq (.seq (.opq 0 [0, 1] ⟨[0, 1, 22], [], []⟩ (.reg [0, 1, 22] [])) (.cond (.seq (.reg [4] []) .leaf) .leaf)) (.seq (.reg [0, 1, 5, 6] []) (.seq (.seq (.reg [0, 1, 5, 6, 7] []) (.node (.opq 1 [0, 1, 5, 6, 7] ⟨[], [(0, [0, 5, 6])], [4]⟩ (.node (.seq (.seq (.reg [0, 1, 5, 6, 7, 29] []) (.cond .leaf .leaf)) (.seq (.node (.seq (.reg [0, 1, 5, 6, 7, 8, 9] []) (.seq (.seq (.reg [0, 1, 5, 6, 7, 8, 38] []) (.cond .leaf .leaf)) (.seq (.reg [0, 1, 5, 6, 7, 42] []) (.cond (.seq (.reg [4] []) .leaf) .leaf))))) (.reg [0, 1, 5, 6, 7] []))))))) (.seq (.reg [0, 6, 10, 11] []) (.seq (.seq (.reg [0, 6, 10, 49] []) (.cond (.seq (.reg [4] []) .leaf) .leaf)) (.seq (.reg [4] [[], [0], [0, 1], [0, 1, 2], [0, 1, 2], [0, 1, 2, 4], [0, 1, 2, 3, 4, 5], [0, 1, 2, 3, 4, 5, 6], [0, 1, 2, 3, 4, 5, 6, 7], [0, 1, 2, 3, 4, 5, 6, 7, 8], [0, 1, 2, 3, 4, 5, 6, 7, 8, 9], [0, 1, 2, 3, 4, 5, 6, 7, 8], [0, 1, 2, 3, 4, 5, 6, 7, 8], [0, 1, 2, 3, 4, 5, 6, 7, 8, 11, 12], [0, 1, 2, 3, 4, 5, 6, 7, 8, 9, 10, 11, 12, 13], [0, 1, 2, 3, 4, 5, 6, 7, 8, 9, 10, 11, 12, 13, 14], [0, 1, 2, 3, 4, 5, 6, 7, 8, 9, 10, 11, 12, 13, 14, 15], [0, 1, 2, 3, 4, 5, 6, 7, 8, 9, 10, 11, 12, 13, 14, 15, 16], [0, 1, 2, 3, 4, 5, 6, 7, 8, 9, 10, 11, 12, 13, 14, 15, 16, 17], [0, 1, 2, 3, 4, 5, 6, 7, 8, 9, 10, 11, 12, 13, 14, 15, 16, 17, 18]]) .leaf)))))))
def L_BitioCanonical_i1 : IC := (.seq (.seq (.reg [⟨some 27, .mov (.t 7), none⟩,
 ⟨some 28, .mov (.t 1), none⟩,
 ⟨some 29, .cmp .lss (.t 27) (.t 28), none⟩] [0, 1, 5, 6, 7, 29]) (.cond (.t 29) .skip (.exit 0))) (.seq (.block 1 (.seq (.reg [⟨some 33, .mov (.t 5), none⟩,
 ⟨some 34, .call 22 [(.t 33)] (.tup [(.sc (.int .i64)), (.sc (.int .i64))]), none⟩,
 ⟨some 32, .mov (.t 34), none⟩,
 ⟨some 35, .ext 0 (.t 32), none⟩,
 ⟨some 36, .ext 1 (.t 32), none⟩,
 ⟨some 8, .mov (.t 35), none⟩,
 ⟨some 9, .mov (.t 36), none⟩] [0, 1, 5, 6, 7, 8, 9]) (.seq (.seq (.reg [⟨some 37, .mov (.t 9), none⟩,
 ⟨some 38, .cmp .neq (.t 37) (.c (Go.Value.int Go.IntKind.i64 0)), none⟩] [0, 1, 5, 6, 7, 8, 38]) (.cond (.t 38) (.exit 0) .skip)) (.seq (.reg [⟨some 39, .mov (.t 6), none⟩,
 ⟨some 40, .mov (.t 8), none⟩,
 ⟨some 41, .call 23 [(.t 39), (.t 40)] (.one (.sc (.int .i64))), none⟩,
 ⟨some 42, .cmp .neq (.t 41) (.c (Go.Value.int Go.IntKind.i64 0)), none⟩] [0, 1, 5, 6, 7, 42]) (.cond (.t 42) (.seq (.reg [⟨some 4, .mov (.c (Go.Value.bool false)), none⟩] [4]) .ret) .skip))))) (.reg [⟨some 30, .mov (.t 7), none⟩,
 ⟨some 31, .bin .add .i64 (.t 30) (.c (Go.Value.int Go.IntKind.i64 1)), none⟩,
 ⟨some 7, .mov (.t 31), none⟩] [0, 1, 5, 6, 7])))
def L_BitioCanonical_i0 : IC := (.reg [⟨some 12, .mov (.t 0), none⟩,
 ⟨some 13, .len false (.t 12), none⟩,
 ⟨some 14, .cmp .gtr (.t 13) (.c (Go.Value.int Go.IntKind.i64 500)), none⟩,
 ⟨some 15, .mov (.t 14), none⟩,
 ⟨some 16, .mov (.t 1), some (15, false)⟩,
 ⟨some 17, .cmp .lss (.t 16) (.c (Go.Value.int Go.IntKind.i64 0)), some (15, false)⟩,
 ⟨some 18, .pick (.t 15) (.c (Go.Value.bool true)) (.t 17), none⟩,
 ⟨some 19, .mov (.t 18), none⟩,
 ⟨some 20, .mov (.t 1), some (19, false)⟩,
 ⟨some 21, .cmp .gtr (.t 20) (.c (Go.Value.int Go.IntKind.i64 4000)), some (19, false)⟩,
 ⟨some 22, .pick (.t 19) (.c (Go.Value.bool true)) (.t 21), none⟩] [0, 1, 22])
def L_BitioCanonical_f : IFn := ⟨74, [.t 4], (.seq (.reg [⟨some 4, .mov (.c (Go.Value.bool false)), none⟩] [0, 1]) (.seq (.seq (.opq 0 [0, 1] L_BitioCanonical_i0) (.cond (.t 22) (.seq (.reg [⟨some 23, .call 11 [] (.one (.sc .bool)), none⟩,
 ⟨some 4, .mov (.t 23), none⟩] [4]) .ret) .skip)) (.seq (.reg [⟨some 24, .mov (.t 0), none⟩,
 ⟨some 25, .call 21 [(.t 24)] (.one (.sc .ptr)), none⟩,
 ⟨some 26, .call 12 [] (.one (.sc .ptr)), none⟩,
 ⟨some 5, .mov (.t 25), none⟩,
 ⟨some 6, .mov (.t 26), none⟩] [0, 1, 5, 6]) (.seq (.seq (.reg [⟨some 7, .mov (.c (Go.Value.int Go.IntKind.i64 0)), none⟩] [0, 1, 5, 6, 7]) (.block 0 (.opq 1 [0, 1, 5, 6, 7] (.loop L_BitioCanonical_i1)))) (.seq (.reg [⟨some 44, .mov (.t 5), none⟩,
 ⟨some 45, .call 24 [(.t 44)] (.tup [(.sc (.int .i64)), (.sc (.int .i64))]), none⟩,
 ⟨some 43, .mov (.t 45), none⟩,
 ⟨some 46, .ext 0 (.t 43), none⟩,
 ⟨some 47, .ext 1 (.t 43), none⟩,
 ⟨some 10, .mov (.t 46), none⟩,
 ⟨some 11, .mov (.t 47), none⟩] [0, 6, 10, 11]) (.seq (.seq (.reg [⟨some 48, .mov (.t 11), none⟩,
 ⟨some 49, .cmp .neq (.t 48) (.c (Go.Value.int Go.IntKind.i64 0)), none⟩] [0, 6, 10, 49]) (.cond (.t 49) (.seq (.reg [⟨some 50, .mov (.t 10), none⟩,
 ⟨some 51, .cmp .eql (.t 50) (.c (Go.Value.int Go.IntKind.i64 0)), none⟩,
 ⟨some 52, .mov (.t 51), none⟩,
 ⟨some 53, .call 11 [] (.one (.sc .bool)), some (52, true)⟩,
 ⟨some 54, .pick (.t 52) (.t 53) (.c (Go.Value.bool false)), none⟩,
 ⟨some 4, .mov (.t 54), none⟩] [4]) .ret) .skip)) (.seq (.reg [⟨some 55, .mov (.t 10), none⟩,
 ⟨some 56, .cmp .geq (.t 55) (.c (Go.Value.int Go.IntKind.i64 0)), none⟩,
 ⟨some 57, .mov (.t 56), none⟩,
 ⟨some 58, .mov (.t 10), some (57, true)⟩,
 ⟨some 59, .mov (.t 0), some (57, true)⟩,
 ⟨some 60, .len false (.t 59), some (57, true)⟩,
 ⟨some 61, .cmp .leq (.t 58) (.t 60), some (57, true)⟩,
 ⟨some 62, .pick (.t 57) (.t 61) (.c (Go.Value.bool false)), none⟩,
 ⟨some 63, .mov (.t 62), none⟩,
 ⟨some 64, .mov (.t 6), some (63, true)⟩,
 ⟨some 65, .call 19 [(.t 64)] (.one (.sc .slc)), some (63, true)⟩,
 ⟨some 66, .mov (.t 0), some (63, true)⟩,
 ⟨some 67, .mov (.t 10), some (63, true)⟩,
 ⟨some 68, .slc 1 (.t 66) none (some (.t 67)) none, some (63, true)⟩,
 ⟨some 69, .call 18 [(.t 65), (.t 68)] (.one (.sc .bool)), some (63, true)⟩,
 ⟨some 70, .pick (.t 63) (.t 69) (.c (Go.Value.bool false)), none⟩,
 ⟨some 71, .mov (.t 70), none⟩,
 ⟨some 72, .call 11 [] (.one (.sc .bool)), some (71, true)⟩,
 ⟨some 73, .pick (.t 71) (.t 72) (.c (Go.Value.bool false)), none⟩,
 ⟨some 4, .mov (.t 73), none⟩] [4]) .ret)))))))⟩
theorem L_BitioCanonical_e1 {R : Type} (L_exampleHoldsq : (Bool → Option R) → Option R) (bitio_NewReader : Option Addr → Nat → Nat → Heap → (Option Addr → Heap → Option R) → Option R) (bitio_NewWriter : Heap → (Option Addr → Heap → Option R) → Option R) (bitio_Reader_Get : Option Addr → Heap → (Int → Int → Heap → Option R) → Option R) (bitio_Writer_Put : Option Addr → Int → Heap → (Int → Heap → Option R) → Option R) (bitio_Reader_Align : Option Addr → Heap → (Int → Int → Heap → Option R) → Option R) (bitio_Writer_Bytes : Option Addr → Heap → (Option Addr → Nat → Nat → Heap → Option R) → Option R) (R09_SameBytes : Option Addr → Nat → Nat → Option Addr → Nat → Nat → Heap → (Bool → Option R) → Option R) (L_BitioCanonical_p0 : Option Addr → Nat → Nat → Int → (Option Addr → Nat → Nat → Int → Bool → Option R) → Option R) (L_BitioCanonical_l1 : (Option Addr → Nat → Nat → Option Addr → Option Addr → Heap → Option R) → (Bool → Heap → Option R) → Nat → Option Addr → Nat → Nat → Int → Option Addr → Option Addr → Int → Heap → Option R) (k n : Nat) (q204 : Option Addr) (l205 : Nat) (c206 : Nat) (n207 : Int) (p208 : Option Addr) (p209 : Option Addr) (n210 : Int) (H : Heap) (K : Xit → Env → Heap → Option R) : evJ (L_BitioCanonical_Ct L_exampleHoldsq bitio_NewReader bitio_NewWriter bitio_Reader_Get bitio_Writer_Put bitio_Reader_Align bitio_Writer_Bytes R09_SameBytes) (L_BitioCanonical_Jt k L_BitioCanonical_p0 L_BitioCanonical_l1) L_BitioCanonical_i1 (List.zip [0, 1, 5, 6, 7] [.slice q204 l205 c206, .int .i64 n207, .pointer p208, .pointer p209, .int .i64 n210]) H (fun x e' H' => match x with | .normal => L_BitioCanonical_aa1 L_BitioCanonical_l1 n ((clean e' [0, 1, 5, 6, 7]).map (·.2)) H' K | x => K x (clean e' ((⟨[], [(0, [0, 5, 6])], [4]⟩ : Out).of x)) H') = L_BitioCanonical_l1_b bitio_Reader_Get bitio_Writer_Put (L_BitioCanonical_l1 (fun q1111 l1112 c1113 p1114 p1115 H => K (.exit 0) [(0, .slice q1111 l1112 c1113), (5, .pointer p1114), (6, .pointer p1115)] H) (fun t1116 H => K .ret [(4, .bool t1116)] H) n) (fun q1111 l1112 c1113 p1114 p1115 H => K (.exit 0) [(0, .slice q1111 l1112 c1113), (5, .pointer p1114), (6, .pointer p1115)] H) (fun t1116 H => K .ret [(4, .bool t1116)] H) k q204 l205 c206 n207 p208 p209 n210 H := by kernel_rfl
theorem L_BitioCanonical_j1 {R : Type} (k : Nat) : JS Try.prog 74 (L_BitioCanonical_a1 R k k) [0, 1, 5, 6, 7] ⟨[], [(0, [0, 5, 6])], [4]⟩ (.loop (sel [1, 1, 1, 0, 1, 0, 0] (Try.f5.body.getD .skip))) :=
  loop_ok (nt := 74) (c := (sel [1, 1, 1, 0, 1, 0, 0] (Try.f5.body.getD .skip))) (C := L_BitioCanonical_C R k) (an := An) (t := (.seq (.seq (.reg [0, 1, 5, 6, 7, 29] []) (.cond .leaf .leaf)) (.seq (.node (.seq (.reg [0, 1, 5, 6, 7, 8, 9] []) (.seq (.seq (.reg [0, 1, 5, 6, 7, 8, 38] []) (.cond .leaf .leaf)) (.seq (.reg [0, 1, 5, 6, 7, 42] []) (.cond (.seq (.reg [4] []) .leaf) .leaf))))) (.reg [0, 1, 5, 6, 7] [])))) (ic := L_BitioCanonical_i1) (L_BitioCanonical_S R k) (L_BitioCanonical_J R k) (by kernel_rfl) (And.intro (And.intro True.intro (And.intro True.intro True.intro)) (And.intro (And.intro True.intro (And.intro (And.intro True.intro (And.intro True.intro True.intro)) (And.intro True.intro (And.intro (And.intro True.intro True.intro) True.intro)))) True.intro)) (L_BitioCanonical_a1 R k) (fun vals H K => by unfold L_BitioCanonical_a1 L_BitioCanonical_aa1; split <;> rfl)
    (fun n vals H K r h => by
      unfold L_BitioCanonical_a1 L_BitioCanonical_aa1 at h
      split at h <;> first | (cases h; done) | exact Eq.trans (L_BitioCanonical_e1 L_exampleHoldsq bitio_NewReader bitio_NewWriter (bitio_Reader_Get k) (bitio_Writer_Put k) (bitio_Reader_Align k) (bitio_Writer_Bytes k) R09_SameBytes (L_BitioCanonical_p0 k) (L_BitioCanonical_l1 k) k n _ _ _ _ _ _ _ H K) h) k
theorem L_BitioCanonical_e0 {R : Type} (L_exampleHoldsq : (Bool → Option R) → Option R) (bitio_NewReader : Option Addr → Nat → Nat → Heap → (Option Addr → Heap → Option R) → Option R) (bitio_NewWriter : Heap → (Option Addr → Heap → Option R) → Option R) (bitio_Reader_Get : Option Addr → Heap → (Int → Int → Heap → Option R) → Option R) (bitio_Writer_Put : Option Addr → Int → Heap → (Int → Heap → Option R) → Option R) (bitio_Reader_Align : Option Addr → Heap → (Int → Int → Heap → Option R) → Option R) (bitio_Writer_Bytes : Option Addr → Heap → (Option Addr → Nat → Nat → Heap → Option R) → Option R) (R09_SameBytes : Option Addr → Nat → Nat → Option Addr → Nat → Nat → Heap → (Bool → Option R) → Option R) (L_BitioCanonical_p0 : Option Addr → Nat → Nat → Int → (Option Addr → Nat → Nat → Int → Bool → Option R) → Option R) (L_BitioCanonical_l1 : (Option Addr → Nat → Nat → Option Addr → Option Addr → Heap → Option R) → (Bool → Heap → Option R) → Nat → Option Addr → Nat → Nat → Int → Option Addr → Option Addr → Int → Heap → Option R) (k : Nat) (q185 : Option Addr) (l186 : Nat) (c187 : Nat) (n188 : Int) (H : Heap) (K : Xit → Env → Heap → Option R) : evJ (L_BitioCanonical_Ct L_exampleHoldsq bitio_NewReader bitio_NewWriter bitio_Reader_Get bitio_Writer_Put bitio_Reader_Align bitio_Writer_Bytes R09_SameBytes) (L_BitioCanonical_Jt k L_BitioCanonical_p0 L_BitioCanonical_l1) L_BitioCanonical_i0 (List.zip [0, 1] [.slice q185 l186 c187, .int .i64 n188]) H (fun x e' H' => K x (clean e' ((⟨[0, 1, 22], [], []⟩ : Out).of x)) H') = L_BitioCanonical_p0_b k q185 l186 c187 n188 (fun q1106 l1107 c1108 n1109 t1110 => K .normal [(0, .slice q1106 l1107 c1108), (1, .int .i64 n1109), (22, .bool t1110)] H) := by kernel_rfl
theorem L_BitioCanonical_j0 {R : Type} (k : Nat) : JS Try.prog 74 (L_BitioCanonical_a0 R k k) [0, 1] ⟨[0, 1, 22], [], []⟩ (sel [1, 0, 0] (Try.f5.body.getD .skip)) :=
  piece_ok (nt := 74) (c := (sel [1, 0, 0] (Try.f5.body.getD .skip))) (C := L_BitioCanonical_C R k) (an := An) (t := (.reg [0, 1, 22] [])) (ic := L_BitioCanonical_i0) (L_BitioCanonical_S R k) (L_BitioCanonical_J R k) (by kernel_rfl) True.intro (L_BitioCanonical_a0 R k k)
    (fun vals H K r h => by
      unfold L_BitioCanonical_a0 L_BitioCanonical_aa0 at h
      split at h <;> first | (cases h; done) | exact Eq.trans (L_BitioCanonical_e0 L_exampleHoldsq bitio_NewReader bitio_NewWriter (bitio_Reader_Get k) (bitio_Writer_Put k) (bitio_Reader_Align k) (bitio_Writer_Bytes k) R09_SameBytes (L_BitioCanonical_p0 k) (L_BitioCanonical_l1 k) k _ _ _ _ H K) h)
def L_BitioCanonical_ca {R : Type} (f : Option Addr → Nat → Nat → Int → Heap → (Bool → Heap → Option R) → Option R) (args : List Value) (H : Heap) (K : Value → Heap → Option R) : Option R :=
  match args with
  | [.slice q181 l182 c183, .int .i64 n184] => f q181 l182 c183 n184 H (fun t1117 H => K (.bool t1117) H)
  | _ => none
def L_BitioCanonical_c (R : Type) (k : Nat) (args : List Value) (H : Heap) (K : Value → Heap → Option R) : Option R := L_BitioCanonical_ca (L_BitioCanonical k) args H K
theorem L_BitioCanonical_e {R : Type} (L_exampleHoldsq : (Bool → Option R) → Option R) (bitio_NewReader : Option Addr → Nat → Nat → Heap → (Option Addr → Heap → Option R) → Option R) (bitio_NewWriter : Heap → (Option Addr → Heap → Option R) → Option R) (bitio_Reader_Get : Option Addr → Heap → (Int → Int → Heap → Option R) → Option R) (bitio_Writer_Put : Option Addr → Int → Heap → (Int → Heap → Option R) → Option R) (bitio_Reader_Align : Option Addr → Heap → (Int → Int → Heap → Option R) → Option R) (bitio_Writer_Bytes : Option Addr → Heap → (Option Addr → Nat → Nat → Heap → Option R) → Option R) (R09_SameBytes : Option Addr → Nat → Nat → Option Addr → Nat → Nat → Heap → (Bool → Option R) → Option R) (L_BitioCanonical_p0 : Option Addr → Nat → Nat → Int → (Option Addr → Nat → Nat → Int → Bool → Option R) → Option R) (L_BitioCanonical_l1 : (Option Addr → Nat → Nat → Option Addr → Option Addr → Heap → Option R) → (Bool → Heap → Option R) → Nat → Option Addr → Nat → Nat → Int → Option Addr → Option Addr → Int → Heap → Option R) (k : Nat) (q181 : Option Addr) (l182 : Nat) (c183 : Nat) (n184 : Int) (H : Heap) (K : Value → Heap → Option R) : evF (L_BitioCanonical_Ct L_exampleHoldsq bitio_NewReader bitio_NewWriter bitio_Reader_Get bitio_Writer_Put bitio_Reader_Align bitio_Writer_Bytes R09_SameBytes) (L_BitioCanonical_Jt k L_BitioCanonical_p0 L_BitioCanonical_l1) L_BitioCanonical_f [.slice q181 l182 c183, .int .i64 n184] H K = L_BitioCanonical_b L_BitioCanonical_p0 L_exampleHoldsq bitio_NewReader bitio_NewWriter L_BitioCanonical_l1 bitio_Reader_Align bitio_Writer_Bytes R09_SameBytes k q181 l182 c183 n184 H (fun t1117 H => K (.bool t1117) H) := by kernel_rfl
theorem L_BitioCanonical_cs (R : Type) (k : Nat) : ∀ args H K r, L_BitioCanonical_c R k args H K = some r → ∃ v H', Tri Try.prog 5 args H v H' ∧ K v H' = some r := by
  intro args H K r h
  unfold L_BitioCanonical_c L_BitioCanonical_ca at h
  split at h
  · exact evF_ok (C := L_BitioCanonical_C R k) (an := An) (t := L_BitioCanonical_at) (fn := Try.f5) (c := (Try.f5.body.getD .skip)) (ifn := L_BitioCanonical_f) (L_BitioCanonical_S R k) (L_BitioCanonical_J R k) Try.func5 (by kernel_rfl) (by kernel_rfl) (And.intro True.intro (And.intro (And.intro (L_BitioCanonical_j0 k) (And.intro (And.intro True.intro True.intro) True.intro)) (And.intro True.intro (And.intro (And.intro True.intro (L_BitioCanonical_j1 k)) (And.intro True.intro (And.intro (And.intro True.intro (And.intro (And.intro True.intro True.intro) True.intro)) (And.intro True.intro True.intro))))))) rfl (Eq.trans (L_BitioCanonical_e L_exampleHoldsq bitio_NewReader bitio_NewWriter (bitio_Reader_Get k) (bitio_Writer_Put k) (bitio_Reader_Align k) (bitio_Writer_Bytes k) R09_SameBytes (L_BitioCanonical_p0 k) (L_BitioCanonical_l1 k) k _ _ _ _ H K) h)
  · cases h
end Go.Proofs.Ytiapgcgpdndkiaa.Sh
