/- Lean functions that stand for Go's, over an explicit heap, and the proofs that they do (written by this claim's program shallow.py). -/
import Derived.Test.YtblkejnciinaeaaSh0
import Derived.Test.YtblkejnciinaeaaSh1
import Derived.Test.YtblkejnciinaeaaSh2
import Derived.Test.YtblkejnciinaeaaSh4
import Derived.Test.YtblkejnciinaeaaSh5
set_option maxRecDepth 100000
set_option linter.unusedVariables false
set_option linter.unusedSimpArgs false
namespace Go.Proofs.Ytblkejnciinaeaa.Sh
open Go.Proofs.Ytblkejnciinaeaa.FW
/-! ### L_TagtreeMixes: function 7 -/
abbrev L_TagtreeMixes_p0_t (R : Type) : Type := Int → Int → Int → Int → Bool → (Int → Int → Int → Int → Bool → Bool → Option R) → Option R
def L_TagtreeMixes_p0_b {R : Type} (k : Nat) (n512 : Int) (n513 : Int) (n514 : Int) (n515 : Int) (t516 : Bool) (KN : Int → Int → Int → Int → Bool → Bool → Option R) : Option R :=
bif decide (n512 > 64) then (KN n512 n513 n514 n515 t516 true)
 else (KN n512 n513 n514 n515 t516 (decide (n513 > 64)))
def L_TagtreeMixes_p0 {R : Type} (k : Nat) (n512 : Int) (n513 : Int) (n514 : Int) (n515 : Int) (t516 : Bool) (KN : Int → Int → Int → Int → Bool → Bool → Option R) : Option R := L_TagtreeMixes_p0_b k n512 n513 n514 n515 t516 KN

abbrev L_TagtreeMixes_p1_t (R : Type) : Type := Int → Int → Int → Int → Bool → Oa → Oa → Oa → Heap → (Int → Int → Int → Int → Bool → Oa → Heap → Option R) → (Bool → Heap → Option R) → Option R
def L_TagtreeMixes_p1_b {R : Type} (tagtree_Tree_Decode : tagtree_Tree_Decode_t R) (tagtree_Tree_Encode : tagtree_Tree_Encode_t R) (k : Nat) (n534 : Int) (n535 : Int) (n536 : Int) (n537 : Int) (t538 : Bool) (p539 : Oa) (p540 : Oa) (p541 : Oa) (H : Heap) (KN : Int → Int → Int → Int → Bool → Oa → Heap → Option R) (KR : Bool → Heap → Option R) : Option R :=
tagtree_Tree_Decode p539 p541 n536 n537 0 H fun t542 n543 H544 =>
bif (n543 != 6) then (KR false H544)
 else (tagtree_Tree_Encode p539 p540 n536 n537 0 H544 fun n545 H546 =>
bif (n545 != 6) then (KR false H546)
 else (KN n534 n535 n536 n537 t538 p539 H546))
def L_TagtreeMixes_p1 {R : Type} (k : Nat) (n534 : Int) (n535 : Int) (n536 : Int) (n537 : Int) (t538 : Bool) (p539 : Oa) (p540 : Oa) (p541 : Oa) (H : Heap) (KN : Int → Int → Int → Int → Bool → Oa → Heap → Option R) (KR : Bool → Heap → Option R) : Option R := L_TagtreeMixes_p1_b (tagtree_Tree_Decode k) (tagtree_Tree_Encode k) k n534 n535 n536 n537 t538 p539 p540 p541 H KN KR

abbrev L_TagtreeMixes_p2_t (R : Type) : Type := Int → Int → Int → Int → Bool → Oa → Oa → Oa → (Int → Int → Bool → Oa → Oa → Oa → Bool → Option R) → Option R
def L_TagtreeMixes_p2_b {R : Type} (k : Nat) (n565 : Int) (n566 : Int) (n567 : Int) (n568 : Int) (t569 : Bool) (p570 : Oa) (p571 : Oa) (p572 : Oa) (KN : Int → Int → Bool → Oa → Oa → Oa → Bool → Option R) : Option R :=
bif decide (n567 ≥ 0) then (bif decide (n567 < n565) then (bif decide (n568 ≥ 0) then (KN n567 n568 t569 p570 p571 p572 (decide (n568 < n566)))
 else (KN n567 n568 t569 p570 p571 p572 false))
 else (KN n567 n568 t569 p570 p571 p572 false))
 else (KN n567 n568 t569 p570 p571 p572 false)
def L_TagtreeMixes_p2 {R : Type} (k : Nat) (n565 : Int) (n566 : Int) (n567 : Int) (n568 : Int) (t569 : Bool) (p570 : Oa) (p571 : Oa) (p572 : Oa) (KN : Int → Int → Bool → Oa → Oa → Oa → Bool → Option R) : Option R := L_TagtreeMixes_p2_b k n565 n566 n567 n568 t569 p570 p571 p572 KN

abbrev L_TagtreeMixes_t (R : Type) : Type := Int → Int → Int → Int → Bool → Heap → (Bool → Heap → Option R) → Option R

def L_TagtreeMixes_b {R : Type} (L_TagtreeMixes_p0 : L_TagtreeMixes_p0_t R) (L_exampleHoldsq : L_exampleHoldsq_t R) (tagtree_New : tagtree_New_t R) (L_TagtreeMixes_p1 : L_TagtreeMixes_p1_t R) (bitio_NewWriter : bitio_NewWriter_t R) (bitio_NewReader : bitio_NewReader_t R) (L_TagtreeMixes_p2 : L_TagtreeMixes_p2_t R) (tagtree_Tree_Decode : tagtree_Tree_Decode_t R) (tagtree_Tree_Encode : tagtree_Tree_Encode_t R) (tagtree_Tree_Set : tagtree_Tree_Set_t R) (k : Nat) (n507 : Int) (n508 : Int) (n509 : Int) (n510 : Int) (t511 : Bool) (H : Heap) (K : Bool → Heap → Option R) : Option R :=
L_TagtreeMixes_p0 n507 n508 n509 n510 t511 (fun n523 n524 n525 n526 t527 t528 =>
bif t528 then (L_exampleHoldsq fun t529 =>
K t529 H)
 else (tagtree_New n523 n524 H fun p530 n531 H532 =>
bif (n531 != 0) then (L_exampleHoldsq fun t533 =>
K t533 H532)
 else (L_TagtreeMixes_p1 n523 n524 n525 n526 t527 p530 none none H532 (fun n554 n555 n556 n557 t558 p559 H560 =>
bitio_NewWriter H560 fun p561 H562 =>
bitio_NewReader none 0 0 H562 fun p563 H564 =>
L_TagtreeMixes_p2 n554 n555 n556 n557 t558 p559 p561 p563 (fun n580 n581 t582 p583 p584 p585 t586 =>
bif (!t586) then (tagtree_Tree_Decode p583 p585 n580 n581 0 H564 fun t587 n588 H589 =>
bif (n588 == 2) then (tagtree_Tree_Encode p583 p584 n580 n581 0 H589 fun n590 H591 =>
bif (n590 == 2) then (tagtree_Tree_Set p583 0 0 3 H591 fun n592 H593 =>
bif (n592 == 0) then (L_exampleHoldsq fun t594 =>
K t594 H593)
 else (K false H593))
 else (K false H591))
 else (K false H589))
 else (bif t582 then (tagtree_Tree_Encode p583 p584 n580 n581 0 H564 fun n595 H596 =>
bif (n595 != 0) then (K false H596)
 else (tagtree_Tree_Decode p583 p585 n580 n581 0 H596 fun t597 n598 H599 =>
bif (n598 == 6) then (tagtree_Tree_Set p583 n580 n581 1 H599 fun n600 H601 =>
bif (n600 == 6) then (L_exampleHoldsq fun t602 =>
K t602 H601)
 else (K false H601))
 else (K false H599)))
 else (tagtree_Tree_Decode p583 p585 n580 n581 0 H564 fun t603 n604 H605 =>
bif (!t603) then (bif (n604 == 0) then (tagtree_Tree_Encode p583 p584 n580 n581 0 H605 fun n606 H607 =>
bif (n606 == 6) then (tagtree_Tree_Set p583 n580 n581 1 H607 fun n608 H609 =>
bif (n608 == 6) then (L_exampleHoldsq fun t610 =>
K t610 H609)
 else (K false H609))
 else (K false H607))
 else (K false H605))
 else (K false H605))))) (fun t611 H612 =>
K t611 H612))))

def L_TagtreeMixes {R : Type} (k : Nat) (n507 : Int) (n508 : Int) (n509 : Int) (n510 : Int) (t511 : Bool) (H : Heap) (K : Bool → Heap → Option R) : Option R := L_TagtreeMixes_b (L_TagtreeMixes_p0 k) L_exampleHoldsq (tagtree_New k) (L_TagtreeMixes_p1 k) bitio_NewWriter bitio_NewReader (L_TagtreeMixes_p2 k) (tagtree_Tree_Decode k) (tagtree_Tree_Encode k) (tagtree_Tree_Set k) k n507 n508 n509 n510 t511 H K

def L_TagtreeMixes_Ct {R : Type} (L_exampleHoldsq : L_exampleHoldsq_t R) (tagtree_New : tagtree_New_t R) (tagtree_Tree_Decode : tagtree_Tree_Decode_t R) (tagtree_Tree_Encode : tagtree_Tree_Encode_t R) (bitio_NewWriter : bitio_NewWriter_t R) (bitio_NewReader : bitio_NewReader_t R) (tagtree_Tree_Set : tagtree_Tree_Set_t R) : Tab R := tcons 15 (L_exampleHoldsq_ca L_exampleHoldsq) <| tcons 11 (tagtree_New_ca tagtree_New) <| tcons 32 (tagtree_Tree_Decode_ca tagtree_Tree_Decode) <| tcons 21 (tagtree_Tree_Encode_ca tagtree_Tree_Encode) <| tcons 17 (bitio_NewWriter_ca bitio_NewWriter) <| tcons 30 (bitio_NewReader_ca bitio_NewReader) <| tcons 19 (tagtree_Tree_Set_ca tagtree_Tree_Set) <| fun _ _ _ _ => none
def L_TagtreeMixes_C (R : Type) (k : Nat) : Tab R := L_TagtreeMixes_Ct L_exampleHoldsq (tagtree_New k) (tagtree_Tree_Decode k) (tagtree_Tree_Encode k) bitio_NewWriter bitio_NewReader (tagtree_Tree_Set k)
theorem L_TagtreeMixes_S (R : Type) (k : Nat) : CSound Try.prog (L_TagtreeMixes_C R k) := csound_cons (L_exampleHoldsq_cs R k) <| csound_cons (tagtree_New_cs R k) <| csound_cons (tagtree_Tree_Decode_cs R k) <| csound_cons (tagtree_Tree_Encode_cs R k) <| csound_cons (bitio_NewWriter_cs R k) <| csound_cons (bitio_NewReader_cs R k) <| csound_cons (tagtree_Tree_Set_cs R k) <| csound_nil
def L_TagtreeMixes_aa0 {R : Type} (f : L_TagtreeMixes_p0_t R) (n : Nat) (vals : List Value) (H : Heap) (K : Xit → Env → Heap → Option R) : Option R :=
  match vals with
  | [.int .i64 n512, .int .i64 n513, .int .i64 n514, .int .i64 n515, .bool t516] => f n512 n513 n514 n515 t516 (fun n1901 n1902 n1903 n1904 t1905 t1906 => K .normal [(0, .int .i64 n1901), (1, .int .i64 n1902), (2, .int .i64 n1903), (3, .int .i64 n1904), (4, .bool t1905), (31, .bool t1906)] H)
  | _ => none
def L_TagtreeMixes_a0 (R : Type) (k n : Nat) (vals : List Value) (H : Heap) (K : Xit → Env → Heap → Option R) : Option R := L_TagtreeMixes_aa0 (L_TagtreeMixes_p0 k) n vals H K
def L_TagtreeMixes_aa1 {R : Type} (f : L_TagtreeMixes_p1_t R) (n : Nat) (vals : List Value) (H : Heap) (K : Xit → Env → Heap → Option R) : Option R :=
  match vals with
  | [.int .i64 n534, .int .i64 n535, .int .i64 n536, .int .i64 n537, .bool t538, .pointer p539, .pointer p540, .pointer p541] => f n534 n535 n536 n537 t538 p539 p540 p541 H (fun n1907 n1908 n1909 n1910 t1911 p1912 H => K .normal [(0, .int .i64 n1907), (1, .int .i64 n1908), (2, .int .i64 n1909), (3, .int .i64 n1910), (4, .bool t1911), (11, .pointer p1912)] H) (fun t1913 H => K .ret [(10, .bool t1913)] H)
  | _ => none
def L_TagtreeMixes_a1 (R : Type) (k n : Nat) (vals : List Value) (H : Heap) (K : Xit → Env → Heap → Option R) : Option R := L_TagtreeMixes_aa1 (L_TagtreeMixes_p1 k) n vals H K
def L_TagtreeMixes_aa2 {R : Type} (f : L_TagtreeMixes_p2_t R) (n : Nat) (vals : List Value) (H : Heap) (K : Xit → Env → Heap → Option R) : Option R :=
  match vals with
  | [.int .i64 n565, .int .i64 n566, .int .i64 n567, .int .i64 n568, .bool t569, .pointer p570, .pointer p571, .pointer p572] => f n565 n566 n567 n568 t569 p570 p571 p572 (fun n1914 n1915 t1916 p1917 p1918 p1919 t1920 => K .normal [(2, .int .i64 n1914), (3, .int .i64 n1915), (4, .bool t1916), (11, .pointer p1917), (17, .pointer p1918), (18, .pointer p1919), (19, .bool t1920)] H)
  | _ => none
def L_TagtreeMixes_a2 (R : Type) (k n : Nat) (vals : List Value) (H : Heap) (K : Xit → Env → Heap → Option R) : Option R := L_TagtreeMixes_aa2 (L_TagtreeMixes_p2 k) n vals H K
def L_TagtreeMixes_Jt {R : Type} (k : Nat) (L_TagtreeMixes_p0 : L_TagtreeMixes_p0_t R) (L_TagtreeMixes_p1 : L_TagtreeMixes_p1_t R) (L_TagtreeMixes_p2 : L_TagtreeMixes_p2_t R) : JTab R := tcons 0 (L_TagtreeMixes_aa0 L_TagtreeMixes_p0 k) <| tcons 1 (L_TagtreeMixes_aa1 L_TagtreeMixes_p1 k) <| tcons 2 (L_TagtreeMixes_aa2 L_TagtreeMixes_p2 k) <| fun _ _ _ _ => none
def L_TagtreeMixes_J (R : Type) (k : Nat) : JTab R := L_TagtreeMixes_Jt k (L_TagtreeMixes_p0 k) (L_TagtreeMixes_p1 k) (L_TagtreeMixes_p2 k)
def L_TagtreeMixes_at : AT := (.seq (.reg [0, 1, 2, 3, 4] []) (.seq (.seq (.opq 0 [0, 1, 2, 3, 4] ⟨[0, 1, 2, 3, 4, 31], [], []⟩ (.reg [0, 1, 2, 3, 4, 31] [])) (.cond (.seq (.reg [10] []) .leaf) .leaf)) (.seq (.reg [0, 1, 2, 3, 4, 11, 12] []) (.seq (.seq (.reg [0, 1, 2, 3, 4, 11, 40] []) (.cond (.seq (.reg [10] []) .leaf) .leaf)) (.seq (.reg [0, 1, 2, 3, 4, 11, 13] []) (.seq (.reg [0, 1, 2, 3, 4, 11, 13, 14] []) (.seq (.opq 1 [0, 1, 2, 3, 4, 11, 13, 14] ⟨[0, 1, 2, 3, 4, 11], [], [10]⟩ (.seq (.reg [0, 1, 2, 3, 4, 11, 13, 16] []) (.seq (.reg [0, 1, 2, 3, 4, 11, 59] []) (.cond (.seq (.reg [10] []) .leaf) .leaf)))) (.seq (.reg [0, 1, 2, 3, 4, 11, 17, 18] []) (.seq (.opq 2 [0, 1, 2, 3, 4, 11, 17, 18] ⟨[2, 3, 4, 11, 17, 18, 19], [], []⟩ (.reg [2, 3, 4, 11, 17, 18, 19] [])) (.seq (.seq (.reg [2, 3, 4, 11, 17, 18, 79] []) (.cond (.seq (.reg [2, 3, 11, 17, 21] []) (.seq (.reg [10] []) .leaf)) .leaf)) (.seq (.seq (.reg [2, 3, 11, 17, 18, 106] []) (.cond (.seq (.seq (.reg [2, 3, 11, 18, 112] []) (.cond (.seq (.reg [10] []) .leaf) .leaf)) (.seq (.reg [2, 3, 11, 23] []) (.seq (.reg [10] []) .leaf))) .leaf)) (.seq (.reg [2, 3, 11, 17, 24, 25] []) (.seq (.reg [10] []) .leaf)))))))))))))
def L_TagtreeMixes_i2 : IC := (.reg [⟨some 62, .mov (.t 2), none⟩,
 ⟨some 63, .cmp .geq (.t 62) (.c (Go.Value.int Go.IntKind.i64 0)), none⟩,
 ⟨some 64, .mov (.t 63), none⟩,
 ⟨some 65, .mov (.t 2), some (64, true)⟩,
 ⟨some 66, .mov (.t 0), some (64, true)⟩,
 ⟨some 67, .cmp .lss (.t 65) (.t 66), some (64, true)⟩,
 ⟨some 68, .pick (.t 64) (.t 67) (.c (Go.Value.bool false)), none⟩,
 ⟨some 69, .mov (.t 68), none⟩,
 ⟨some 70, .mov (.t 3), some (69, true)⟩,
 ⟨some 71, .cmp .geq (.t 70) (.c (Go.Value.int Go.IntKind.i64 0)), some (69, true)⟩,
 ⟨some 72, .pick (.t 69) (.t 71) (.c (Go.Value.bool false)), none⟩,
 ⟨some 73, .mov (.t 72), none⟩,
 ⟨some 74, .mov (.t 3), some (73, true)⟩,
 ⟨some 75, .mov (.t 1), some (73, true)⟩,
 ⟨some 76, .cmp .lss (.t 74) (.t 75), some (73, true)⟩,
 ⟨some 77, .pick (.t 73) (.t 76) (.c (Go.Value.bool false)), none⟩,
 ⟨some 19, .mov (.t 77), none⟩] [2, 3, 4, 11, 17, 18, 19])
def L_TagtreeMixes_i1 : IC := (.seq (.reg [⟨some 43, .mov (.t 11), none⟩,
 ⟨some 44, .mov (.t 14), none⟩,
 ⟨some 45, .mov (.t 2), none⟩,
 ⟨some 46, .mov (.t 3), none⟩,
 ⟨some 47, .call 32 [(.t 43), (.t 44), (.t 45), (.t 46), (.c (Go.Value.int Go.IntKind.i64 0))] (.tup [(.sc .bool), (.sc (.int .i64))]), none⟩,
 ⟨some 42, .mov (.t 47), none⟩,
 ⟨some 48, .ext 0 (.t 42), none⟩,
 ⟨some 49, .ext 1 (.t 42), none⟩,
 ⟨some 15, .mov (.t 48), none⟩,
 ⟨some 16, .mov (.t 49), none⟩] [0, 1, 2, 3, 4, 11, 13, 16]) (.seq (.reg [⟨some 50, .mov (.t 16), none⟩,
 ⟨some 51, .cmp .neq (.t 50) (.c (Go.Value.int Go.IntKind.i64 6)), none⟩,
 ⟨some 52, .mov (.t 51), none⟩,
 ⟨some 53, .mov (.t 11), some (52, false)⟩,
 ⟨some 54, .mov (.t 13), some (52, false)⟩,
 ⟨some 55, .mov (.t 2), some (52, false)⟩,
 ⟨some 56, .mov (.t 3), some (52, false)⟩,
 ⟨some 57, .call 21 [(.t 53), (.t 54), (.t 55), (.t 56), (.c (Go.Value.int Go.IntKind.i64 0))] (.one (.sc (.int .i64))), some (52, false)⟩,
 ⟨some 58, .cmp .neq (.t 57) (.c (Go.Value.int Go.IntKind.i64 6)), some (52, false)⟩,
 ⟨some 59, .pick (.t 52) (.c (Go.Value.bool true)) (.t 58), none⟩] [0, 1, 2, 3, 4, 11, 59]) (.cond (.t 59) (.seq (.reg [⟨some 10, .mov (.c (Go.Value.bool false)), none⟩] [10]) .ret) .skip)))
def L_TagtreeMixes_i0 : IC := (.reg [⟨some 26, .mov (.t 0), none⟩,
 ⟨some 27, .cmp .gtr (.t 26) (.c (Go.Value.int Go.IntKind.i64 64)), none⟩,
 ⟨some 28, .mov (.t 27), none⟩,
 ⟨some 29, .mov (.t 1), some (28, false)⟩,
 ⟨some 30, .cmp .gtr (.t 29) (.c (Go.Value.int Go.IntKind.i64 64)), some (28, false)⟩,
 ⟨some 31, .pick (.t 28) (.c (Go.Value.bool true)) (.t 30), none⟩] [0, 1, 2, 3, 4, 31])
def L_TagtreeMixes_f : IFn := ⟨165, [.t 10], (.seq (.reg [⟨some 10, .mov (.c (Go.Value.bool false)), none⟩] [0, 1, 2, 3, 4]) (.seq (.seq (.opq 0 [0, 1, 2, 3, 4] L_TagtreeMixes_i0) (.cond (.t 31) (.seq (.reg [⟨some 32, .call 15 [] (.one (.sc .bool)), none⟩,
 ⟨some 10, .mov (.t 32), none⟩] [10]) .ret) .skip)) (.seq (.reg [⟨some 34, .mov (.t 0), none⟩,
 ⟨some 35, .mov (.t 1), none⟩,
 ⟨some 36, .call 11 [(.t 34), (.t 35)] (.tup [(.sc .ptr), (.sc (.int .i64))]), none⟩,
 ⟨some 33, .mov (.t 36), none⟩,
 ⟨some 37, .ext 0 (.t 33), none⟩,
 ⟨some 38, .ext 1 (.t 33), none⟩,
 ⟨some 11, .mov (.t 37), none⟩,
 ⟨some 12, .mov (.t 38), none⟩] [0, 1, 2, 3, 4, 11, 12]) (.seq (.seq (.reg [⟨some 39, .mov (.t 12), none⟩,
 ⟨some 40, .cmp .neq (.t 39) (.c (Go.Value.int Go.IntKind.i64 0)), none⟩] [0, 1, 2, 3, 4, 11, 40]) (.cond (.t 40) (.seq (.reg [⟨some 41, .call 15 [] (.one (.sc .bool)), none⟩,
 ⟨some 10, .mov (.t 41), none⟩] [10]) .ret) .skip)) (.seq (.reg [⟨some 13, .mov (.c (Go.Value.pointer none)), none⟩] [0, 1, 2, 3, 4, 11, 13]) (.seq (.reg [⟨some 14, .mov (.c (Go.Value.pointer none)), none⟩] [0, 1, 2, 3, 4, 11, 13, 14]) (.seq (.opq 1 [0, 1, 2, 3, 4, 11, 13, 14] L_TagtreeMixes_i1) (.seq (.reg [⟨some 60, .call 17 [] (.one (.sc .ptr)), none⟩,
 ⟨some 61, .call 30 [(.c (Go.Value.slice none 0 0))] (.one (.sc .ptr)), none⟩,
 ⟨some 17, .mov (.t 60), none⟩,
 ⟨some 18, .mov (.t 61), none⟩] [0, 1, 2, 3, 4, 11, 17, 18]) (.seq (.opq 2 [0, 1, 2, 3, 4, 11, 17, 18] L_TagtreeMixes_i2) (.seq (.seq (.reg [⟨some 78, .mov (.t 19), none⟩,
 ⟨some 79, .lnot (.t 78), none⟩] [2, 3, 4, 11, 17, 18, 79]) (.cond (.t 79) (.seq (.reg [⟨some 81, .mov (.t 11), none⟩,
 ⟨some 82, .mov (.t 18), none⟩,
 ⟨some 83, .mov (.t 2), none⟩,
 ⟨some 84, .mov (.t 3), none⟩,
 ⟨some 85, .call 32 [(.t 81), (.t 82), (.t 83), (.t 84), (.c (Go.Value.int Go.IntKind.i64 0))] (.tup [(.sc .bool), (.sc (.int .i64))]), none⟩,
 ⟨some 80, .mov (.t 85), none⟩,
 ⟨some 86, .ext 0 (.t 80), none⟩,
 ⟨some 87, .ext 1 (.t 80), none⟩,
 ⟨some 20, .mov (.t 86), none⟩,
 ⟨some 21, .mov (.t 87), none⟩] [2, 3, 11, 17, 21]) (.seq (.reg [⟨some 88, .mov (.t 21), none⟩,
 ⟨some 89, .cmp .eql (.t 88) (.c (Go.Value.int Go.IntKind.i64 2)), none⟩,
 ⟨some 90, .mov (.t 89), none⟩,
 ⟨some 91, .mov (.t 11), some (90, true)⟩,
 ⟨some 92, .mov (.t 17), some (90, true)⟩,
 ⟨some 93, .mov (.t 2), some (90, true)⟩,
 ⟨some 94, .mov (.t 3), some (90, true)⟩,
 ⟨some 95, .call 21 [(.t 91), (.t 92), (.t 93), (.t 94), (.c (Go.Value.int Go.IntKind.i64 0))] (.one (.sc (.int .i64))), some (90, true)⟩,
 ⟨some 96, .cmp .eql (.t 95) (.c (Go.Value.int Go.IntKind.i64 2)), some (90, true)⟩,
 ⟨some 97, .pick (.t 90) (.t 96) (.c (Go.Value.bool false)), none⟩,
 ⟨some 98, .mov (.t 97), none⟩,
 ⟨some 99, .mov (.t 11), some (98, true)⟩,
 ⟨some 100, .call 19 [(.t 99), (.c (Go.Value.int Go.IntKind.i64 0)), (.c (Go.Value.int Go.IntKind.i64 0)), (.c (Go.Value.int Go.IntKind.i64 3))] (.one (.sc (.int .i64))), some (98, true)⟩,
 ⟨some 101, .cmp .eql (.t 100) (.c (Go.Value.int Go.IntKind.i64 0)), some (98, true)⟩,
 ⟨some 102, .pick (.t 98) (.t 101) (.c (Go.Value.bool false)), none⟩,
 ⟨some 103, .mov (.t 102), none⟩,
 ⟨some 104, .call 15 [] (.one (.sc .bool)), some (103, true)⟩,
 ⟨some 105, .pick (.t 103) (.t 104) (.c (Go.Value.bool false)), none⟩,
 ⟨some 10, .mov (.t 105), none⟩] [10]) .ret)) .skip)) (.seq (.seq (.reg [⟨some 106, .mov (.t 4), none⟩] [2, 3, 11, 17, 18, 106]) (.cond (.t 106) (.seq (.seq (.reg [⟨some 107, .mov (.t 11), none⟩,
 ⟨some 108, .mov (.t 17), none⟩,
 ⟨some 109, .mov (.t 2), none⟩,
 ⟨some 110, .mov (.t 3), none⟩,
 ⟨some 111, .call 21 [(.t 107), (.t 108), (.t 109), (.t 110), (.c (Go.Value.int Go.IntKind.i64 0))] (.one (.sc (.int .i64))), none⟩,
 ⟨some 112, .cmp .neq (.t 111) (.c (Go.Value.int Go.IntKind.i64 0)), none⟩] [2, 3, 11, 18, 112]) (.cond (.t 112) (.seq (.reg [⟨some 10, .mov (.c (Go.Value.bool false)), none⟩] [10]) .ret) .skip)) (.seq (.reg [⟨some 114, .mov (.t 11), none⟩,
 ⟨some 115, .mov (.t 18), none⟩,
 ⟨some 116, .mov (.t 2), none⟩,
 ⟨some 117, .mov (.t 3), none⟩,
 ⟨some 118, .call 32 [(.t 114), (.t 115), (.t 116), (.t 117), (.c (Go.Value.int Go.IntKind.i64 0))] (.tup [(.sc .bool), (.sc (.int .i64))]), none⟩,
 ⟨some 113, .mov (.t 118), none⟩,
 ⟨some 119, .ext 0 (.t 113), none⟩,
 ⟨some 120, .ext 1 (.t 113), none⟩,
 ⟨some 22, .mov (.t 119), none⟩,
 ⟨some 23, .mov (.t 120), none⟩] [2, 3, 11, 23]) (.seq (.reg [⟨some 121, .mov (.t 23), none⟩,
 ⟨some 122, .cmp .eql (.t 121) (.c (Go.Value.int Go.IntKind.i64 6)), none⟩,
 ⟨some 123, .mov (.t 122), none⟩,
 ⟨some 124, .mov (.t 11), some (123, true)⟩,
 ⟨some 125, .mov (.t 2), some (123, true)⟩,
 ⟨some 126, .mov (.t 3), some (123, true)⟩,
 ⟨some 127, .call 19 [(.t 124), (.t 125), (.t 126), (.c (Go.Value.int Go.IntKind.i64 1))] (.one (.sc (.int .i64))), some (123, true)⟩,
 ⟨some 128, .cmp .eql (.t 127) (.c (Go.Value.int Go.IntKind.i64 6)), some (123, true)⟩,
 ⟨some 129, .pick (.t 123) (.t 128) (.c (Go.Value.bool false)), none⟩,
 ⟨some 130, .mov (.t 129), none⟩,
 ⟨some 131, .call 15 [] (.one (.sc .bool)), some (130, true)⟩,
 ⟨some 132, .pick (.t 130) (.t 131) (.c (Go.Value.bool false)), none⟩,
 ⟨some 10, .mov (.t 132), none⟩] [10]) .ret))) .skip)) (.seq (.reg [⟨some 134, .mov (.t 11), none⟩,
 ⟨some 135, .mov (.t 18), none⟩,
 ⟨some 136, .mov (.t 2), none⟩,
 ⟨some 137, .mov (.t 3), none⟩,
 ⟨some 138, .call 32 [(.t 134), (.t 135), (.t 136), (.t 137), (.c (Go.Value.int Go.IntKind.i64 0))] (.tup [(.sc .bool), (.sc (.int .i64))]), none⟩,
 ⟨some 133, .mov (.t 138), none⟩,
 ⟨some 139, .ext 0 (.t 133), none⟩,
 ⟨some 140, .ext 1 (.t 133), none⟩,
 ⟨some 24, .mov (.t 139), none⟩,
 ⟨some 25, .mov (.t 140), none⟩] [2, 3, 11, 17, 24, 25]) (.seq (.reg [⟨some 141, .mov (.t 24), none⟩,
 ⟨some 142, .lnot (.t 141), none⟩,
 ⟨some 143, .mov (.t 142), none⟩,
 ⟨some 144, .mov (.t 25), some (143, true)⟩,
 ⟨some 145, .cmp .eql (.t 144) (.c (Go.Value.int Go.IntKind.i64 0)), some (143, true)⟩,
 ⟨some 146, .pick (.t 143) (.t 145) (.c (Go.Value.bool false)), none⟩,
 ⟨some 147, .mov (.t 146), none⟩,
 ⟨some 148, .mov (.t 11), some (147, true)⟩,
 ⟨some 149, .mov (.t 17), some (147, true)⟩,
 ⟨some 150, .mov (.t 2), some (147, true)⟩,
 ⟨some 151, .mov (.t 3), some (147, true)⟩,
 ⟨some 152, .call 21 [(.t 148), (.t 149), (.t 150), (.t 151), (.c (Go.Value.int Go.IntKind.i64 0))] (.one (.sc (.int .i64))), some (147, true)⟩,
 ⟨some 153, .cmp .eql (.t 152) (.c (Go.Value.int Go.IntKind.i64 6)), some (147, true)⟩,
 ⟨some 154, .pick (.t 147) (.t 153) (.c (Go.Value.bool false)), none⟩,
 ⟨some 155, .mov (.t 154), none⟩,
 ⟨some 156, .mov (.t 11), some (155, true)⟩,
 ⟨some 157, .mov (.t 2), some (155, true)⟩,
 ⟨some 158, .mov (.t 3), some (155, true)⟩,
 ⟨some 159, .call 19 [(.t 156), (.t 157), (.t 158), (.c (Go.Value.int Go.IntKind.i64 1))] (.one (.sc (.int .i64))), some (155, true)⟩,
 ⟨some 160, .cmp .eql (.t 159) (.c (Go.Value.int Go.IntKind.i64 6)), some (155, true)⟩,
 ⟨some 161, .pick (.t 155) (.t 160) (.c (Go.Value.bool false)), none⟩,
 ⟨some 162, .mov (.t 161), none⟩,
 ⟨some 163, .call 15 [] (.one (.sc .bool)), some (162, true)⟩,
 ⟨some 164, .pick (.t 162) (.t 163) (.c (Go.Value.bool false)), none⟩,
 ⟨some 10, .mov (.t 164), none⟩] [10]) .ret)))))))))))))⟩
theorem L_TagtreeMixes_e2 {R : Type} (L_exampleHoldsq : L_exampleHoldsq_t R) (tagtree_New : tagtree_New_t R) (tagtree_Tree_Decode : tagtree_Tree_Decode_t R) (tagtree_Tree_Encode : tagtree_Tree_Encode_t R) (bitio_NewWriter : bitio_NewWriter_t R) (bitio_NewReader : bitio_NewReader_t R) (tagtree_Tree_Set : tagtree_Tree_Set_t R) (L_TagtreeMixes_p0 : L_TagtreeMixes_p0_t R) (L_TagtreeMixes_p1 : L_TagtreeMixes_p1_t R) (L_TagtreeMixes_p2 : L_TagtreeMixes_p2_t R) (k : Nat) (n565 : Int) (n566 : Int) (n567 : Int) (n568 : Int) (t569 : Bool) (p570 : Oa) (p571 : Oa) (p572 : Oa) (H : Heap) (K : Xit → Env → Heap → Option R) : evJ (L_TagtreeMixes_Ct L_exampleHoldsq tagtree_New tagtree_Tree_Decode tagtree_Tree_Encode bitio_NewWriter bitio_NewReader tagtree_Tree_Set) (L_TagtreeMixes_Jt k L_TagtreeMixes_p0 L_TagtreeMixes_p1 L_TagtreeMixes_p2) L_TagtreeMixes_i2 (List.zip [0, 1, 2, 3, 4, 11, 17, 18] [.int .i64 n565, .int .i64 n566, .int .i64 n567, .int .i64 n568, .bool t569, .pointer p570, .pointer p571, .pointer p572]) H (fun x e' H' => K x (clean e' ((⟨[2, 3, 4, 11, 17, 18, 19], [], []⟩ : Out).of x)) H') = L_TagtreeMixes_p2_b k n565 n566 n567 n568 t569 p570 p571 p572 (fun n1914 n1915 t1916 p1917 p1918 p1919 t1920 => K .normal [(2, .int .i64 n1914), (3, .int .i64 n1915), (4, .bool t1916), (11, .pointer p1917), (17, .pointer p1918), (18, .pointer p1919), (19, .bool t1920)] H) := by kernel_rfl
theorem L_TagtreeMixes_j2 {R : Type} (k : Nat) : JS Try.prog 165 (L_TagtreeMixes_a2 R k k) [0, 1, 2, 3, 4, 11, 17, 18] ⟨[2, 3, 4, 11, 17, 18, 19], [], []⟩ (sel [1, 1, 1, 1, 1, 1, 1, 1, 0] (Try.f7.body.getD .skip)) :=
  piece_ok (nt := 165) (c := (sel [1, 1, 1, 1, 1, 1, 1, 1, 0] (Try.f7.body.getD .skip))) (C := L_TagtreeMixes_C R k) (an := An) (t := (.reg [2, 3, 4, 11, 17, 18, 19] [])) (ic := L_TagtreeMixes_i2) (L_TagtreeMixes_S R k) (L_TagtreeMixes_J R k) (by kernel_rfl) True.intro (L_TagtreeMixes_a2 R k k)
    (fun vals H K r h => by
      unfold L_TagtreeMixes_a2 L_TagtreeMixes_aa2 at h
      split at h <;> first | (cases h; done) | exact Eq.trans (L_TagtreeMixes_e2 L_exampleHoldsq (tagtree_New k) (tagtree_Tree_Decode k) (tagtree_Tree_Encode k) bitio_NewWriter bitio_NewReader (tagtree_Tree_Set k) (L_TagtreeMixes_p0 k) (L_TagtreeMixes_p1 k) (L_TagtreeMixes_p2 k) k _ _ _ _ _ _ _ _ H K) h)
theorem L_TagtreeMixes_e1 {R : Type} (L_exampleHoldsq : L_exampleHoldsq_t R) (tagtree_New : tagtree_New_t R) (tagtree_Tree_Decode : tagtree_Tree_Decode_t R) (tagtree_Tree_Encode : tagtree_Tree_Encode_t R) (bitio_NewWriter : bitio_NewWriter_t R) (bitio_NewReader : bitio_NewReader_t R) (tagtree_Tree_Set : tagtree_Tree_Set_t R) (L_TagtreeMixes_p0 : L_TagtreeMixes_p0_t R) (L_TagtreeMixes_p1 : L_TagtreeMixes_p1_t R) (L_TagtreeMixes_p2 : L_TagtreeMixes_p2_t R) (k : Nat) (n534 : Int) (n535 : Int) (n536 : Int) (n537 : Int) (t538 : Bool) (p539 : Oa) (p540 : Oa) (p541 : Oa) (H : Heap) (K : Xit → Env → Heap → Option R) : evJ (L_TagtreeMixes_Ct L_exampleHoldsq tagtree_New tagtree_Tree_Decode tagtree_Tree_Encode bitio_NewWriter bitio_NewReader tagtree_Tree_Set) (L_TagtreeMixes_Jt k L_TagtreeMixes_p0 L_TagtreeMixes_p1 L_TagtreeMixes_p2) L_TagtreeMixes_i1 (List.zip [0, 1, 2, 3, 4, 11, 13, 14] [.int .i64 n534, .int .i64 n535, .int .i64 n536, .int .i64 n537, .bool t538, .pointer p539, .pointer p540, .pointer p541]) H (fun x e' H' => K x (clean e' ((⟨[0, 1, 2, 3, 4, 11], [], [10]⟩ : Out).of x)) H') = L_TagtreeMixes_p1_b tagtree_Tree_Decode tagtree_Tree_Encode k n534 n535 n536 n537 t538 p539 p540 p541 H (fun n1907 n1908 n1909 n1910 t1911 p1912 H => K .normal [(0, .int .i64 n1907), (1, .int .i64 n1908), (2, .int .i64 n1909), (3, .int .i64 n1910), (4, .bool t1911), (11, .pointer p1912)] H) (fun t1913 H => K .ret [(10, .bool t1913)] H) := by kernel_rfl
theorem L_TagtreeMixes_j1 {R : Type} (k : Nat) : JS Try.prog 165 (L_TagtreeMixes_a1 R k k) [0, 1, 2, 3, 4, 11, 13, 14] ⟨[0, 1, 2, 3, 4, 11], [], [10]⟩ (sel [1, 1, 1, 1, 1, 1, 0] (Try.f7.body.getD .skip)) :=
  piece_ok (nt := 165) (c := (sel [1, 1, 1, 1, 1, 1, 0] (Try.f7.body.getD .skip))) (C := L_TagtreeMixes_C R k) (an := An) (t := (.seq (.reg [0, 1, 2, 3, 4, 11, 13, 16] []) (.seq (.reg [0, 1, 2, 3, 4, 11, 59] []) (.cond (.seq (.reg [10] []) .leaf) .leaf)))) (ic := L_TagtreeMixes_i1) (L_TagtreeMixes_S R k) (L_TagtreeMixes_J R k) (by kernel_rfl) (And.intro True.intro (And.intro True.intro (And.intro (And.intro True.intro True.intro) True.intro))) (L_TagtreeMixes_a1 R k k)
    (fun vals H K r h => by
      unfold L_TagtreeMixes_a1 L_TagtreeMixes_aa1 at h
      split at h <;> first | (cases h; done) | exact Eq.trans (L_TagtreeMixes_e1 L_exampleHoldsq (tagtree_New k) (tagtree_Tree_Decode k) (tagtree_Tree_Encode k) bitio_NewWriter bitio_NewReader (tagtree_Tree_Set k) (L_TagtreeMixes_p0 k) (L_TagtreeMixes_p1 k) (L_TagtreeMixes_p2 k) k _ _ _ _ _ _ _ _ H K) h)
theorem L_TagtreeMixes_e0 {R : Type} (L_exampleHoldsq : L_exampleHoldsq_t R) (tagtree_New : tagtree_New_t R) (tagtree_Tree_Decode : tagtree_Tree_Decode_t R) (tagtree_Tree_Encode : tagtree_Tree_Encode_t R) (bitio_NewWriter : bitio_NewWriter_t R) (bitio_NewReader : bitio_NewReader_t R) (tagtree_Tree_Set : tagtree_Tree_Set_t R) (L_TagtreeMixes_p0 : L_TagtreeMixes_p0_t R) (L_TagtreeMixes_p1 : L_TagtreeMixes_p1_t R) (L_TagtreeMixes_p2 : L_TagtreeMixes_p2_t R) (k : Nat) (n512 : Int) (n513 : Int) (n514 : Int) (n515 : Int) (t516 : Bool) (H : Heap) (K : Xit → Env → Heap → Option R) : evJ (L_TagtreeMixes_Ct L_exampleHoldsq tagtree_New tagtree_Tree_Decode tagtree_Tree_Encode bitio_NewWriter bitio_NewReader tagtree_Tree_Set) (L_TagtreeMixes_Jt k L_TagtreeMixes_p0 L_TagtreeMixes_p1 L_TagtreeMixes_p2) L_TagtreeMixes_i0 (List.zip [0, 1, 2, 3, 4] [.int .i64 n512, .int .i64 n513, .int .i64 n514, .int .i64 n515, .bool t516]) H (fun x e' H' => K x (clean e' ((⟨[0, 1, 2, 3, 4, 31], [], []⟩ : Out).of x)) H') = L_TagtreeMixes_p0_b k n512 n513 n514 n515 t516 (fun n1901 n1902 n1903 n1904 t1905 t1906 => K .normal [(0, .int .i64 n1901), (1, .int .i64 n1902), (2, .int .i64 n1903), (3, .int .i64 n1904), (4, .bool t1905), (31, .bool t1906)] H) := by kernel_rfl
theorem L_TagtreeMixes_j0 {R : Type} (k : Nat) : JS Try.prog 165 (L_TagtreeMixes_a0 R k k) [0, 1, 2, 3, 4] ⟨[0, 1, 2, 3, 4, 31], [], []⟩ (sel [1, 0, 0] (Try.f7.body.getD .skip)) :=
  piece_ok (nt := 165) (c := (sel [1, 0, 0] (Try.f7.body.getD .skip))) (C := L_TagtreeMixes_C R k) (an := An) (t := (.reg [0, 1, 2, 3, 4, 31] [])) (ic := L_TagtreeMixes_i0) (L_TagtreeMixes_S R k) (L_TagtreeMixes_J R k) (by kernel_rfl) True.intro (L_TagtreeMixes_a0 R k k)
    (fun vals H K r h => by
      unfold L_TagtreeMixes_a0 L_TagtreeMixes_aa0 at h
      split at h <;> first | (cases h; done) | exact Eq.trans (L_TagtreeMixes_e0 L_exampleHoldsq (tagtree_New k) (tagtree_Tree_Decode k) (tagtree_Tree_Encode k) bitio_NewWriter bitio_NewReader (tagtree_Tree_Set k) (L_TagtreeMixes_p0 k) (L_TagtreeMixes_p1 k) (L_TagtreeMixes_p2 k) k _ _ _ _ _ H K) h)
def L_TagtreeMixes_ca {R : Type} (f : L_TagtreeMixes_t R) (args : List Value) (H : Heap) (K : Value → Heap → Option R) : Option R :=
  match args with
  | [.int .i64 n507, .int .i64 n508, .int .i64 n509, .int .i64 n510, .bool t511] => f n507 n508 n509 n510 t511 H (fun t1921 H => K (.bool t1921) H)
  | _ => none
def L_TagtreeMixes_c (R : Type) (k : Nat) (args : List Value) (H : Heap) (K : Value → Heap → Option R) : Option R := L_TagtreeMixes_ca (L_TagtreeMixes k) args H K
theorem L_TagtreeMixes_e {R : Type} (L_exampleHoldsq : L_exampleHoldsq_t R) (tagtree_New : tagtree_New_t R) (tagtree_Tree_Decode : tagtree_Tree_Decode_t R) (tagtree_Tree_Encode : tagtree_Tree_Encode_t R) (bitio_NewWriter : bitio_NewWriter_t R) (bitio_NewReader : bitio_NewReader_t R) (tagtree_Tree_Set : tagtree_Tree_Set_t R) (L_TagtreeMixes_p0 : L_TagtreeMixes_p0_t R) (L_TagtreeMixes_p1 : L_TagtreeMixes_p1_t R) (L_TagtreeMixes_p2 : L_TagtreeMixes_p2_t R) (k : Nat) (n507 : Int) (n508 : Int) (n509 : Int) (n510 : Int) (t511 : Bool) (H : Heap) (K : Value → Heap → Option R) : evF (L_TagtreeMixes_Ct L_exampleHoldsq tagtree_New tagtree_Tree_Decode tagtree_Tree_Encode bitio_NewWriter bitio_NewReader tagtree_Tree_Set) (L_TagtreeMixes_Jt k L_TagtreeMixes_p0 L_TagtreeMixes_p1 L_TagtreeMixes_p2) L_TagtreeMixes_f [.int .i64 n507, .int .i64 n508, .int .i64 n509, .int .i64 n510, .bool t511] H K = L_TagtreeMixes_b L_TagtreeMixes_p0 L_exampleHoldsq tagtree_New L_TagtreeMixes_p1 bitio_NewWriter bitio_NewReader L_TagtreeMixes_p2 tagtree_Tree_Decode tagtree_Tree_Encode tagtree_Tree_Set k n507 n508 n509 n510 t511 H (fun t1921 H => K (.bool t1921) H) := by kernel_rfl
theorem L_TagtreeMixes_cs (R : Type) (k : Nat) : ∀ args H K r, L_TagtreeMixes_c R k args H K = some r → ∃ v H', Tri Try.prog 7 args H v H' ∧ K v H' = some r := by
  intro args H K r h
  unfold L_TagtreeMixes_c L_TagtreeMixes_ca at h
  split at h
  · exact evF_ok (C := L_TagtreeMixes_C R k) (an := An) (t := L_TagtreeMixes_at) (fn := Try.f7) (c := (Try.f7.body.getD .skip)) (ifn := L_TagtreeMixes_f) (L_TagtreeMixes_S R k) (L_TagtreeMixes_J R k) Try.func7 (by kernel_rfl) (by kernel_rfl) (And.intro True.intro (And.intro (And.intro (L_TagtreeMixes_j0 k) (And.intro (And.intro True.intro True.intro) True.intro)) (And.intro True.intro (And.intro (And.intro True.intro (And.intro (And.intro True.intro True.intro) True.intro)) (And.intro True.intro (And.intro True.intro (And.intro (L_TagtreeMixes_j1 k) (And.intro True.intro (And.intro (L_TagtreeMixes_j2 k) (And.intro (And.intro True.intro (And.intro (And.intro True.intro (And.intro True.intro True.intro)) True.intro)) (And.intro (And.intro True.intro (And.intro (And.intro (And.intro True.intro (And.intro (And.intro True.intro True.intro) True.intro)) (And.intro True.intro (And.intro True.intro True.intro))) True.intro)) (And.intro True.intro (And.intro True.intro True.intro))))))))))))) rfl (Eq.trans (L_TagtreeMixes_e L_exampleHoldsq (tagtree_New k) (tagtree_Tree_Decode k) (tagtree_Tree_Encode k) bitio_NewWriter bitio_NewReader (tagtree_Tree_Set k) (L_TagtreeMixes_p0 k) (L_TagtreeMixes_p1 k) (L_TagtreeMixes_p2 k) k _ _ _ _ _ H K) h)
  · cases h
end Go.Proofs.Ytblkejnciinaeaa.Sh
