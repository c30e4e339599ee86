/- Lean functions that stand for Go's, over an explicit heap, and the proofs that they do (written by this claim's program shallow.py). -/
import Derived.Test.YtoeoolnkndkefaaSh0
import Derived.Test.YtoeoolnkndkefaaSh2
import Derived.Test.YtoeoolnkndkefaaSh5
import Derived.Test.YtoeoolnkndkefaaSh10
set_option maxRecDepth 100000
set_option linter.unusedVariables false
set_option linter.unusedSimpArgs false
namespace Go.Proofs.Ytoeoolnkndkefaa.Sh
open Go.Proofs.Ytoeoolnkndkefaa.FW
/-! ### L_ColorPixels: function 3 -/
def L_ColorPixels_p0_b {R : Type} (L_bounded : Int → Int → Int → Int → (Bool → Option R) → Option R) (k : Nat) (n7 : Int) (p8 : Option Addr) (H : Heap) (KN : Int → Option Addr → Bool → Option R) : Option R :=
hidx p8 3 0 1 fun p9 =>
ldI .i64 H p9 fun n10 =>
hidx p8 3 1 1 fun p11 =>
ldI .i64 H p11 fun n12 =>
hidx p8 3 2 1 fun p13 =>
ldI .i64 H p13 fun n14 =>
L_bounded n10 n12 n14 281474976710656 fun t15 =>
bif (!t15) then (bif (n7 == 1) then (KN n7 p8 true)
 else (KN n7 p8 (n7 == 2)))
 else (KN n7 p8 false)
def L_ColorPixels_p0 {R : Type} (k : Nat) (n7 : Int) (p8 : Option Addr) (H : Heap) (KN : Int → Option Addr → Bool → Option R) : Option R := L_ColorPixels_p0_b L_bounded k n7 p8 H KN

def L_ColorPixels_p1_b {R : Type} (k : Nat) (n42 : Int) (p43 : Option Addr) (n44 : Int) (n45 : Int) (n46 : Int) (n47 : Int) (n48 : Int) (n49 : Int) (KN : Int → Option Addr → Option R) (KR : Bool → Option R) : Option R :=
bif (n44 != n47) then (KR false)
 else (bif (n45 != n48) then (KR false)
 else (bif (n46 != n49) then (KR false)
 else (KN n42 p43)))
def L_ColorPixels_p1 {R : Type} (k : Nat) (n42 : Int) (p43 : Option Addr) (n44 : Int) (n45 : Int) (n46 : Int) (n47 : Int) (n48 : Int) (n49 : Int) (KN : Int → Option Addr → Option R) (KR : Bool → Option R) : Option R := L_ColorPixels_p1_b k n42 p43 n44 n45 n46 n47 n48 n49 KN KR

def L_ColorPixels_b {R : Type} (L_ColorPixels_p0 : Int → Option Addr → Heap → (Int → Option Addr → Bool → Option R) → Option R) (L_exampleHoldsq : (Bool → Option R) → Option R) (color_Forward : Int → Int → Int → Int → Heap → (Int → Int → Int → Heap → Option R) → Option R) (R07_Forward : Int → Int → Int → Int → (Int → Int → Int → Option R) → Option R) (L_ColorPixels_p1 : Int → Option Addr → Int → Int → Int → Int → Int → Int → (Int → Option Addr → Option R) → (Bool → Option R) → Option R) (color_Inverse : Int → Int → Int → Int → Heap → (Int → Int → Int → Heap → Option R) → Option R) (R07_Inverse : Int → Int → Int → Int → (Int → Int → Int → Option R) → Option R) (k : Nat) (n1 : Int) (n2 : Int) (n3 : Int) (n4 : Int) (H : Heap) (K : Bool → Heap → Option R) : Option R :=
hal H [.int .i64 n2, .int .i64 n3, .int .i64 n4] fun p5 H6 =>
L_ColorPixels_p0 n1 p5 H6 (fun n19 p20 t21 =>
bif t21 then (L_exampleHoldsq fun t22 =>
K t22 H6)
 else (hidx p20 3 0 1 fun p23 =>
ldI .i64 H6 p23 fun n24 =>
hidx p20 3 1 1 fun p25 =>
ldI .i64 H6 p25 fun n26 =>
hidx p20 3 2 1 fun p27 =>
ldI .i64 H6 p27 fun n28 =>
color_Forward n19 n24 n26 n28 H6 fun n29 n30 n31 H32 =>
hidx p20 3 0 1 fun p33 =>
ldI .i64 H32 p33 fun n34 =>
hidx p20 3 1 1 fun p35 =>
ldI .i64 H32 p35 fun n36 =>
hidx p20 3 2 1 fun p37 =>
ldI .i64 H32 p37 fun n38 =>
R07_Forward n19 n34 n36 n38 fun n39 n40 n41 =>
L_ColorPixels_p1 n19 p20 n29 n30 n31 n39 n40 n41 (fun n53 p54 =>
hidx p54 3 0 1 fun p55 =>
ldI .i64 H32 p55 fun n56 =>
hidx p54 3 1 1 fun p57 =>
ldI .i64 H32 p57 fun n58 =>
hidx p54 3 2 1 fun p59 =>
ldI .i64 H32 p59 fun n60 =>
color_Inverse n53 n56 n58 n60 H32 fun n61 n62 n63 H64 =>
hidx p54 3 0 1 fun p65 =>
ldI .i64 H64 p65 fun n66 =>
hidx p54 3 1 1 fun p67 =>
ldI .i64 H64 p67 fun n68 =>
hidx p54 3 2 1 fun p69 =>
ldI .i64 H64 p69 fun n70 =>
R07_Inverse n53 n66 n68 n70 fun n71 n72 n73 =>
bif (n61 == n71) then (bif (n62 == n72) then (bif (n63 == n73) then (L_exampleHoldsq fun t74 =>
K t74 H64)
 else (K false H64))
 else (K false H64))
 else (K false H64)) (fun t75 =>
K t75 H32)))

def L_ColorPixels {R : Type} (k : Nat) (n1 : Int) (n2 : Int) (n3 : Int) (n4 : Int) (H : Heap) (K : Bool → Heap → Option R) : Option R := L_ColorPixels_b (L_ColorPixels_p0 k) L_exampleHoldsq color_Forward R07_Forward (L_ColorPixels_p1 k) color_Inverse R07_Inverse k n1 n2 n3 n4 H K

def L_ColorPixels_Ct {R : Type} (L_bounded : Int → Int → Int → Int → (Bool → Option R) → Option R) (L_exampleHoldsq : (Bool → Option R) → Option R) (color_Forward : Int → Int → Int → Int → Heap → (Int → Int → Int → Heap → Option R) → Option R) (R07_Forward : Int → Int → Int → Int → (Int → Int → Int → Option R) → Option R) (color_Inverse : Int → Int → Int → Int → Heap → (Int → Int → Int → Heap → Option R) → Option R) (R07_Inverse : Int → Int → Int → Int → (Int → Int → Int → Option R) → Option R) : Tab R := tcons 11 (L_bounded_ca L_bounded) <| tcons 12 (L_exampleHoldsq_ca L_exampleHoldsq) <| tcons 13 (color_Forward_ca color_Forward) <| tcons 14 (R07_Forward_ca R07_Forward) <| tcons 15 (color_Inverse_ca color_Inverse) <| tcons 16 (R07_Inverse_ca R07_Inverse) <| fun _ _ _ _ => none
def L_ColorPixels_C (R : Type) (k : Nat) : Tab R := L_ColorPixels_Ct L_bounded L_exampleHoldsq color_Forward R07_Forward color_Inverse R07_Inverse
theorem L_ColorPixels_S (R : Type) (k : Nat) : CSound Try.prog (L_ColorPixels_C R k) := csound_cons (L_bounded_cs R k) <| csound_cons (L_exampleHoldsq_cs R k) <| csound_cons (color_Forward_cs R k) <| csound_cons (R07_Forward_cs R k) <| csound_cons (color_Inverse_cs R k) <| csound_cons (R07_Inverse_cs R k) <| csound_nil
def L_ColorPixels_aa0 {R : Type} (f : Int → Option Addr → Heap → (Int → Option Addr → Bool → Option R) → Option R) (n : Nat) (vals : List Value) (H : Heap) (K : Xit → Env → Heap → Option R) : Option R :=
  match vals with
  | [.int .i64 n7, .pointer p8] => f n7 p8 H (fun n1224 p1225 t1226 => K .normal [(0, .int .i64 n1224), (3, .pointer p1225), (26, .bool t1226)] H)
  | _ => none
def L_ColorPixels_a0 (R : Type) (k n : Nat) (vals : List Value) (H : Heap) (K : Xit → Env → Heap → Option R) : Option R := L_ColorPixels_aa0 (L_ColorPixels_p0 k) n vals H K
def L_ColorPixels_aa1 {R : Type} (f : Int → Option Addr → Int → Int → Int → Int → Int → Int → (Int → Option Addr → Option R) → (Bool → Option R) → Option R) (n : Nat) (vals : List Value) (H : Heap) (K : Xit → Env → Heap → Option R) : Option R :=
  match vals with
  | [.int .i64 n42, .pointer p43, .int .i64 n44, .int .i64 n45, .int .i64 n46, .int .i64 n47, .int .i64 n48, .int .i64 n49] => f n42 p43 n44 n45 n46 n47 n48 n49 (fun n1227 p1228 => K .normal [(0, .int .i64 n1227), (3, .pointer p1228)] H) (fun t1229 => K .ret [(4, .bool t1229)] H)
  | _ => none
def L_ColorPixels_a1 (R : Type) (k n : Nat) (vals : List Value) (H : Heap) (K : Xit → Env → Heap → Option R) : Option R := L_ColorPixels_aa1 (L_ColorPixels_p1 k) n vals H K
def L_ColorPixels_Jt {R : Type} (k : Nat) (L_ColorPixels_p0 : Int → Option Addr → Heap → (Int → Option Addr → Bool → Option R) → Option R) (L_ColorPixels_p1 : Int → Option Addr → Int → Int → Int → Int → Int → Int → (Int → Option Addr → Option R) → (Bool → Option R) → Option R) : JTab R := tcons 0 (L_ColorPixels_aa0 L_ColorPixels_p0 k) <| tcons 1 (L_ColorPixels_aa1 L_ColorPixels_p1 k) <| fun _ _ _ _ => none
def L_ColorPixels_J (R : Type) (k : Nat) : JTab R := L_ColorPixels_Jt k (L_ColorPixels_p0 k) (L_ColorPixels_p1 k)
def L_ColorPixels_at : AT := (.seq (.reg [0, 3] []) (.seq (.seq (.opq 0 [0, 3] ⟨[0, 3, 26], [], []⟩ (.reg [0, 3, 26] [])) (.cond (.seq (.reg [4] []) .leaf) .leaf)) (.seq (.reg [0, 3, 5, 6, 7] []) (.seq (.reg [0, 3, 5, 6, 7, 8, 9, 10] []) (.seq (.opq 1 [0, 3, 5, 6, 7, 8, 9, 10] ⟨[0, 3], [], [4]⟩ (.seq (.reg [0, 3, 64] []) (.cond (.seq (.reg [4] []) .leaf) .leaf))) (.seq (.reg [0, 3, 5, 6, 7] []) (.seq (.reg [5, 6, 7, 8, 9, 10] []) (.seq (.reg [4] []) .leaf))))))))
def L_ColorPixels_i1 : IC := (.seq (.reg [⟨some 52, .mov (.t 5), none⟩,
 ⟨some 53, .mov (.t 8), none⟩,
 ⟨some 54, .cmp .neq (.t 52) (.t 53), none⟩,
 ⟨some 55, .mov (.t 54), none⟩,
 ⟨some 56, .mov (.t 6), some (55, false)⟩,
 ⟨some 57, .mov (.t 9), some (55, false)⟩,
 ⟨some 58, .cmp .neq (.t 56) (.t 57), some (55, false)⟩,
 ⟨some 59, .pick (.t 55) (.c (Go.Value.bool true)) (.t 58), none⟩,
 ⟨some 60, .mov (.t 59), none⟩,
 ⟨some 61, .mov (.t 7), some (60, false)⟩,
 ⟨some 62, .mov (.t 10), some (60, false)⟩,
 ⟨some 63, .cmp .neq (.t 61) (.t 62), some (60, false)⟩,
 ⟨some 64, .pick (.t 60) (.c (Go.Value.bool true)) (.t 63), none⟩] [0, 3, 64]) (.cond (.t 64) (.seq (.reg [⟨some 4, .mov (.c (Go.Value.bool false)), none⟩] [4]) .ret) .skip))
def L_ColorPixels_i0 : IC := (.reg [⟨some 11, .ida 3 1 (.t 3) (.c (Go.Value.int Go.IntKind.i64 0)), none⟩,
 ⟨some 12, .ld (.sc (.int .i64)) (.t 11), none⟩,
 ⟨some 13, .ida 3 1 (.t 3) (.c (Go.Value.int Go.IntKind.i64 1)), none⟩,
 ⟨some 14, .ld (.sc (.int .i64)) (.t 13), none⟩,
 ⟨some 15, .ida 3 1 (.t 3) (.c (Go.Value.int Go.IntKind.i64 2)), none⟩,
 ⟨some 16, .ld (.sc (.int .i64)) (.t 15), none⟩,
 ⟨some 17, .call 11 [(.t 12), (.t 14), (.t 16), (.c (Go.Value.int Go.IntKind.i64 281474976710656))] (.one (.sc .bool)), none⟩,
 ⟨some 18, .lnot (.t 17), none⟩,
 ⟨some 19, .mov (.t 18), none⟩,
 ⟨some 20, .mov (.t 0), some (19, true)⟩,
 ⟨some 21, .cmp .eql (.t 20) (.c (Go.Value.int Go.IntKind.i64 1)), some (19, true)⟩,
 ⟨some 22, .mov (.t 21), some (19, true)⟩,
 ⟨some 23, .mov (.t 0), some (22, false)⟩,
 ⟨some 24, .cmp .eql (.t 23) (.c (Go.Value.int Go.IntKind.i64 2)), some (22, false)⟩,
 ⟨some 25, .pick (.t 22) (.c (Go.Value.bool true)) (.t 24), some (19, true)⟩,
 ⟨some 26, .pick (.t 19) (.t 25) (.c (Go.Value.bool false)), none⟩] [0, 3, 26])
def L_ColorPixels_f : IFn := ⟨105, [.t 4], (.seq (.reg [⟨some 3, .box (.t 1), none⟩,
 ⟨some 4, .mov (.c (Go.Value.bool false)), none⟩] [0, 3]) (.seq (.seq (.opq 0 [0, 3] L_ColorPixels_i0) (.cond (.t 26) (.seq (.reg [⟨some 27, .call 12 [] (.one (.sc .bool)), none⟩,
 ⟨some 4, .mov (.t 27), none⟩] [4]) .ret) .skip)) (.seq (.reg [⟨some 29, .mov (.t 0), none⟩,
 ⟨some 30, .ida 3 1 (.t 3) (.c (Go.Value.int Go.IntKind.i64 0)), none⟩,
 ⟨some 31, .ld (.sc (.int .i64)) (.t 30), none⟩,
 ⟨some 32, .ida 3 1 (.t 3) (.c (Go.Value.int Go.IntKind.i64 1)), none⟩,
 ⟨some 33, .ld (.sc (.int .i64)) (.t 32), none⟩,
 ⟨some 34, .ida 3 1 (.t 3) (.c (Go.Value.int Go.IntKind.i64 2)), none⟩,
 ⟨some 35, .ld (.sc (.int .i64)) (.t 34), none⟩,
 ⟨some 36, .call 13 [(.t 29), (.t 31), (.t 33), (.t 35)] (.tup [(.sc (.int .i64)), (.sc (.int .i64)), (.sc (.int .i64))]), none⟩,
 ⟨some 28, .mov (.t 36), none⟩,
 ⟨some 37, .ext 0 (.t 28), none⟩,
 ⟨some 38, .ext 1 (.t 28), none⟩,
 ⟨some 39, .ext 2 (.t 28), none⟩,
 ⟨some 5, .mov (.t 37), none⟩,
 ⟨some 6, .mov (.t 38), none⟩,
 ⟨some 7, .mov (.t 39), none⟩] [0, 3, 5, 6, 7]) (.seq (.reg [⟨some 41, .mov (.t 0), none⟩,
 ⟨some 42, .ida 3 1 (.t 3) (.c (Go.Value.int Go.IntKind.i64 0)), none⟩,
 ⟨some 43, .ld (.sc (.int .i64)) (.t 42), none⟩,
 ⟨some 44, .ida 3 1 (.t 3) (.c (Go.Value.int Go.IntKind.i64 1)), none⟩,
 ⟨some 45, .ld (.sc (.int .i64)) (.t 44), none⟩,
 ⟨some 46, .ida 3 1 (.t 3) (.c (Go.Value.int Go.IntKind.i64 2)), none⟩,
 ⟨some 47, .ld (.sc (.int .i64)) (.t 46), none⟩,
 ⟨some 48, .call 14 [(.t 41), (.t 43), (.t 45), (.t 47)] (.tup [(.sc (.int .i64)), (.sc (.int .i64)), (.sc (.int .i64))]), none⟩,
 ⟨some 40, .mov (.t 48), none⟩,
 ⟨some 49, .ext 0 (.t 40), none⟩,
 ⟨some 50, .ext 1 (.t 40), none⟩,
 ⟨some 51, .ext 2 (.t 40), none⟩,
 ⟨some 8, .mov (.t 49), none⟩,
 ⟨some 9, .mov (.t 50), none⟩,
 ⟨some 10, .mov (.t 51), none⟩] [0, 3, 5, 6, 7, 8, 9, 10]) (.seq (.opq 1 [0, 3, 5, 6, 7, 8, 9, 10] L_ColorPixels_i1) (.seq (.reg [⟨some 66, .mov (.t 0), none⟩,
 ⟨some 67, .ida 3 1 (.t 3) (.c (Go.Value.int Go.IntKind.i64 0)), none⟩,
 ⟨some 68, .ld (.sc (.int .i64)) (.t 67), none⟩,
 ⟨some 69, .ida 3 1 (.t 3) (.c (Go.Value.int Go.IntKind.i64 1)), none⟩,
 ⟨some 70, .ld (.sc (.int .i64)) (.t 69), none⟩,
 ⟨some 71, .ida 3 1 (.t 3) (.c (Go.Value.int Go.IntKind.i64 2)), none⟩,
 ⟨some 72, .ld (.sc (.int .i64)) (.t 71), none⟩,
 ⟨some 73, .call 15 [(.t 66), (.t 68), (.t 70), (.t 72)] (.tup [(.sc (.int .i64)), (.sc (.int .i64)), (.sc (.int .i64))]), none⟩,
 ⟨some 65, .mov (.t 73), none⟩,
 ⟨some 74, .ext 0 (.t 65), none⟩,
 ⟨some 75, .ext 1 (.t 65), none⟩,
 ⟨some 76, .ext 2 (.t 65), none⟩,
 ⟨some 5, .mov (.t 74), none⟩,
 ⟨some 6, .mov (.t 75), none⟩,
 ⟨some 7, .mov (.t 76), none⟩] [0, 3, 5, 6, 7]) (.seq (.reg [⟨some 78, .mov (.t 0), none⟩,
 ⟨some 79, .ida 3 1 (.t 3) (.c (Go.Value.int Go.IntKind.i64 0)), none⟩,
 ⟨some 80, .ld (.sc (.int .i64)) (.t 79), none⟩,
 ⟨some 81, .ida 3 1 (.t 3) (.c (Go.Value.int Go.IntKind.i64 1)), none⟩,
 ⟨some 82, .ld (.sc (.int .i64)) (.t 81), none⟩,
 ⟨some 83, .ida 3 1 (.t 3) (.c (Go.Value.int Go.IntKind.i64 2)), none⟩,
 ⟨some 84, .ld (.sc (.int .i64)) (.t 83), none⟩,
 ⟨some 85, .call 16 [(.t 78), (.t 80), (.t 82), (.t 84)] (.tup [(.sc (.int .i64)), (.sc (.int .i64)), (.sc (.int .i64))]), none⟩,
 ⟨some 77, .mov (.t 85), none⟩,
 ⟨some 86, .ext 0 (.t 77), none⟩,
 ⟨some 87, .ext 1 (.t 77), none⟩,
 ⟨some 88, .ext 2 (.t 77), none⟩,
 ⟨some 8, .mov (.t 86), none⟩,
 ⟨some 9, .mov (.t 87), none⟩,
 ⟨some 10, .mov (.t 88), none⟩] [5, 6, 7, 8, 9, 10]) (.seq (.reg [⟨some 89, .mov (.t 5), none⟩,
 ⟨some 90, .mov (.t 8), none⟩,
 ⟨some 91, .cmp .eql (.t 89) (.t 90), none⟩,
 ⟨some 92, .mov (.t 91), none⟩,
 ⟨some 93, .mov (.t 6), some (92, true)⟩,
 ⟨some 94, .mov (.t 9), some (92, true)⟩,
 ⟨some 95, .cmp .eql (.t 93) (.t 94), some (92, true)⟩,
 ⟨some 96, .pick (.t 92) (.t 95) (.c (Go.Value.bool false)), none⟩,
 ⟨some 97, .mov (.t 96), none⟩,
 ⟨some 98, .mov (.t 7), some (97, true)⟩,
 ⟨some 99, .mov (.t 10), some (97, true)⟩,
 ⟨some 100, .cmp .eql (.t 98) (.t 99), some (97, true)⟩,
 ⟨some 101, .pick (.t 97) (.t 100) (.c (Go.Value.bool false)), none⟩,
 ⟨some 102, .mov (.t 101), none⟩,
 ⟨some 103, .call 12 [] (.one (.sc .bool)), some (102, true)⟩,
 ⟨some 104, .pick (.t 102) (.t 103) (.c (Go.Value.bool false)), none⟩,
 ⟨some 4, .mov (.t 104), none⟩] [4]) .ret))))))))⟩
theorem L_ColorPixels_e1 {R : Type} (L_bounded : Int → Int → Int → Int → (Bool → Option R) → Option R) (L_exampleHoldsq : (Bool → Option R) → Option R) (color_Forward : Int → Int → Int → Int → Heap → (Int → Int → Int → Heap → Option R) → Option R) (R07_Forward : Int → Int → Int → Int → (Int → Int → Int → Option R) → Option R) (color_Inverse : Int → Int → Int → Int → Heap → (Int → Int → Int → Heap → Option R) → Option R) (R07_Inverse : Int → Int → Int → Int → (Int → Int → Int → Option R) → Option R) (L_ColorPixels_p0 : Int → Option Addr → Heap → (Int → Option Addr → Bool → Option R) → Option R) (L_ColorPixels_p1 : Int → Option Addr → Int → Int → Int → Int → Int → Int → (Int → Option Addr → Option R) → (Bool → Option R) → Option R) (k : Nat) (n42 : Int) (p43 : Option Addr) (n44 : Int) (n45 : Int) (n46 : Int) (n47 : Int) (n48 : Int) (n49 : Int) (H : Heap) (K : Xit → Env → Heap → Option R) : evJ (L_ColorPixels_Ct L_bounded L_exampleHoldsq color_Forward R07_Forward color_Inverse R07_Inverse) (L_ColorPixels_Jt k L_ColorPixels_p0 L_ColorPixels_p1) L_ColorPixels_i1 (List.zip [0, 3, 5, 6, 7, 8, 9, 10] [.int .i64 n42, .pointer p43, .int .i64 n44, .int .i64 n45, .int .i64 n46, .int .i64 n47, .int .i64 n48, .int .i64 n49]) H (fun x e' H' => K x (clean e' ((⟨[0, 3], [], [4]⟩ : Out).of x)) H') = L_ColorPixels_p1_b k n42 p43 n44 n45 n46 n47 n48 n49 (fun n1227 p1228 => K .normal [(0, .int .i64 n1227), (3, .pointer p1228)] H) (fun t1229 => K .ret [(4, .bool t1229)] H) := by kernel_rfl
theorem L_ColorPixels_j1 {R : Type} (k : Nat) : JS Try.prog 105 (L_ColorPixels_a1 R k k) [0, 3, 5, 6, 7, 8, 9, 10] ⟨[0, 3], [], [4]⟩ (sel [1, 1, 1, 1, 0] (Try.f3.body.getD .skip)) :=
  piece_ok (nt := 105) (c := (sel [1, 1, 1, 1, 0] (Try.f3.body.getD .skip))) (C := L_ColorPixels_C R k) (an := An) (t := (.seq (.reg [0, 3, 64] []) (.cond (.seq (.reg [4] []) .leaf) .leaf))) (ic := L_ColorPixels_i1) (L_ColorPixels_S R k) (L_ColorPixels_J R k) (by kernel_rfl) (And.intro True.intro (And.intro (And.intro True.intro True.intro) True.intro)) (L_ColorPixels_a1 R k k)
    (fun vals H K r h => by
      unfold L_ColorPixels_a1 L_ColorPixels_aa1 at h
      split at h <;> first | (cases h; done) | exact Eq.trans (L_ColorPixels_e1 L_bounded L_exampleHoldsq color_Forward R07_Forward color_Inverse R07_Inverse (L_ColorPixels_p0 k) (L_ColorPixels_p1 k) k _ _ _ _ _ _ _ _ H K) h)
theorem L_ColorPixels_e0 {R : Type} (L_bounded : Int → Int → Int → Int → (Bool → Option R) → Option R) (L_exampleHoldsq : (Bool → Option R) → Option R) (color_Forward : Int → Int → Int → Int → Heap → (Int → Int → Int → Heap → Option R) → Option R) (R07_Forward : Int → Int → Int → Int → (Int → Int → Int → Option R) → Option R) (color_Inverse : Int → Int → Int → Int → Heap → (Int → Int → Int → Heap → Option R) → Option R) (R07_Inverse : Int → Int → Int → Int → (Int → Int → Int → Option R) → Option R) (L_ColorPixels_p0 : Int → Option Addr → Heap → (Int → Option Addr → Bool → Option R) → Option R) (L_ColorPixels_p1 : Int → Option Addr → Int → Int → Int → Int → Int → Int → (Int → Option Addr → Option R) → (Bool → Option R) → Option R) (k : Nat) (n7 : Int) (p8 : Option Addr) (H : Heap) (K : Xit → Env → Heap → Option R) : evJ (L_ColorPixels_Ct L_bounded L_exampleHoldsq color_Forward R07_Forward color_Inverse R07_Inverse) (L_ColorPixels_Jt k L_ColorPixels_p0 L_ColorPixels_p1) L_ColorPixels_i0 (List.zip [0, 3] [.int .i64 n7, .pointer p8]) H (fun x e' H' => K x (clean e' ((⟨[0, 3, 26], [], []⟩ : Out).of x)) H') = L_ColorPixels_p0_b L_bounded k n7 p8 H (fun n1224 p1225 t1226 => K .normal [(0, .int .i64 n1224), (3, .pointer p1225), (26, .bool t1226)] H) := by kernel_rfl
theorem L_ColorPixels_j0 {R : Type} (k : Nat) : JS Try.prog 105 (L_ColorPixels_a0 R k k) [0, 3] ⟨[0, 3, 26], [], []⟩ (sel [1, 0, 0] (Try.f3.body.getD .skip)) :=
  piece_ok (nt := 105) (c := (sel [1, 0, 0] (Try.f3.body.getD .skip))) (C := L_ColorPixels_C R k) (an := An) (t := (.reg [0, 3, 26] [])) (ic := L_ColorPixels_i0) (L_ColorPixels_S R k) (L_ColorPixels_J R k) (by kernel_rfl) True.intro (L_ColorPixels_a0 R k k)
    (fun vals H K r h => by
      unfold L_ColorPixels_a0 L_ColorPixels_aa0 at h
      split at h <;> first | (cases h; done) | exact Eq.trans (L_ColorPixels_e0 L_bounded L_exampleHoldsq color_Forward R07_Forward color_Inverse R07_Inverse (L_ColorPixels_p0 k) (L_ColorPixels_p1 k) k _ _ H K) h)
def L_ColorPixels_ca {R : Type} (f : Int → Int → Int → Int → Heap → (Bool → Heap → Option R) → Option R) (args : List Value) (H : Heap) (K : Value → Heap → Option R) : Option R :=
  match args with
  | [.int .i64 n1, .agg ⟨[.int .i64 n2, .int .i64 n3, .int .i64 n4]⟩] => f n1 n2 n3 n4 H (fun t1230 H => K (.bool t1230) H)
  | _ => none
def L_ColorPixels_c (R : Type) (k : Nat) (args : List Value) (H : Heap) (K : Value → Heap → Option R) : Option R := L_ColorPixels_ca (L_ColorPixels k) args H K
theorem L_ColorPixels_e {R : Type} (L_bounded : Int → Int → Int → Int → (Bool → Option R) → Option R) (L_exampleHoldsq : (Bool → Option R) → Option R) (color_Forward : Int → Int → Int → Int → Heap → (Int → Int → Int → Heap → Option R) → Option R) (R07_Forward : Int → Int → Int → Int → (Int → Int → Int → Option R) → Option R) (color_Inverse : Int → Int → Int → Int → Heap → (Int → Int → Int → Heap → Option R) → Option R) (R07_Inverse : Int → Int → Int → Int → (Int → Int → Int → Option R) → Option R) (L_ColorPixels_p0 : Int → Option Addr → Heap → (Int → Option Addr → Bool → Option R) → Option R) (L_ColorPixels_p1 : Int → Option Addr → Int → Int → Int → Int → Int → Int → (Int → Option Addr → Option R) → (Bool → Option R) → Option R) (k : Nat) (n1 : Int) (n2 : Int) (n3 : Int) (n4 : Int) (H : Heap) (K : Value → Heap → Option R) : evF (L_ColorPixels_Ct L_bounded L_exampleHoldsq color_Forward R07_Forward color_Inverse R07_Inverse) (L_ColorPixels_Jt k L_ColorPixels_p0 L_ColorPixels_p1) L_ColorPixels_f [.int .i64 n1, .agg ⟨[.int .i64 n2, .int .i64 n3, .int .i64 n4]⟩] H K = L_ColorPixels_b L_ColorPixels_p0 L_exampleHoldsq color_Forward R07_Forward L_ColorPixels_p1 color_Inverse R07_Inverse k n1 n2 n3 n4 H (fun t1230 H => K (.bool t1230) H) := by kernel_rfl
theorem L_ColorPixels_cs (R : Type) (k : Nat) : ∀ args H K r, L_ColorPixels_c R k args H K = some r → ∃ v H', Tri Try.prog 3 args H v H' ∧ K v H' = some r := by
  intro args H K r h
  unfold L_ColorPixels_c L_ColorPixels_ca at h
  split at h
  · exact evF_ok (C := L_ColorPixels_C R k) (an := An) (t := L_ColorPixels_at) (fn := Try.f3) (c := (Try.f3.body.getD .skip)) (ifn := L_ColorPixels_f) (L_ColorPixels_S R k) (L_ColorPixels_J R k) Try.func3 (by kernel_rfl) (by kernel_rfl) (And.intro True.intro (And.intro (And.intro (L_ColorPixels_j0 k) (And.intro (And.intro True.intro True.intro) True.intro)) (And.intro True.intro (And.intro True.intro (And.intro (L_ColorPixels_j1 k) (And.intro True.intro (And.intro True.intro (And.intro True.intro True.intro)))))))) rfl (Eq.trans (L_ColorPixels_e L_bounded L_exampleHoldsq color_Forward R07_Forward color_Inverse R07_Inverse (L_ColorPixels_p0 k) (L_ColorPixels_p1 k) k _ _ _ _ H K) h)
  · cases h
end Go.Proofs.Ytoeoolnkndkefaa.Sh
