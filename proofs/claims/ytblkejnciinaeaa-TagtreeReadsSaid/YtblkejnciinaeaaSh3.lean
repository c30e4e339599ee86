/- Lean functions that stand for Go's,over an explicit heap,and the proofs that they do (written by this claim's program shallow.py). -/
import Derived.Test.YtblkejnciinaeaaSh0
set_option maxRecDepth 100000
set_option linter.unusedVariables false
set_option linter.unusedSimpArgs false
namespace Go.Proofs.Ytblkejnciinaeaa.Sh
open Go.Proofs.Ytblkejnciinaeaa.FW
/-! ### L_small: function 16 -/
abbrev L_small_p0_t (R : Type) : Type := Int → Int → Oa → Nat → Nat → (Oa → Nat → Nat → Option R) → (Bool → Option R) → Option R
def L_small_p0_b {R : Type} (k : Nat) (n24 : Int) (n25 : Int) (q26 : Oa) (l27 : Nat) (c28 : Nat) (KN : Oa → Nat → Nat → Option R) (KR : Bool → Option R) : Option R :=
bif decide (n24 > 64) then (KR false)
 else (bif decide (n25 > 64) then (KR false)
 else (bif decide (((l27 : Nat) : Int) > 100) then (KR false)
 else (KN q26 l27 c28)))
def L_small_p0 {R : Type} (k : Nat) (n24 : Int) (n25 : Int) (q26 : Oa) (l27 : Nat) (c28 : Nat) (KN : Oa → Nat → Nat → Option R) (KR : Bool → Option R) : Option R := L_small_p0_b k n24 n25 q26 l27 c28 KN KR

abbrev L_small_p3_t (R : Type) : Type := Int → Oa → Oa → Nat → Nat → Int → Int → Heap → (Int → Oa → Oa → Nat → Nat → Int → Int → Bool → Option R) → Option R
def L_small_p3_b {R : Type} (k : Nat) (n56 : Int) (p57 : Oa) (q58 : Oa) (l59 : Nat) (c60 : Nat) (n61 : Int) (n62 : Int) (H : Heap) (KN : Int → Oa → Oa → Nat → Nat → Int → Int → Bool → Option R) : Option R :=
hfad 0 p57 fun p63 =>
ldI .i64 H p63 fun n64 =>
bif (n64 == 1) then (hfad 3 p57 fun p65 =>
ldI .i64 H p65 fun n66 =>
bif decide (n66 > 0) then (hfad 3 p57 fun p67 =>
ldI .i64 H p67 fun n68 =>
KN n56 p57 q58 l59 c60 n61 n62 (decide (n68 ≤ 65536)))
 else (KN n56 p57 q58 l59 c60 n61 n62 false))
 else (hfad 0 p57 fun p69 =>
ldI .i64 H p69 fun n70 =>
bif (n70 == 3) then (hfad 3 p57 fun p71 =>
ldI .i64 H p71 fun n72 =>
bif decide (n72 > 0) then (hfad 3 p57 fun p73 =>
ldI .i64 H p73 fun n74 =>
KN n56 p57 q58 l59 c60 n61 n62 (decide (n74 ≤ 65536)))
 else (KN n56 p57 q58 l59 c60 n61 n62 false))
 else (KN n56 p57 q58 l59 c60 n61 n62 false))
def L_small_p3 {R : Type} (k : Nat) (n56 : Int) (p57 : Oa) (q58 : Oa) (l59 : Nat) (c60 : Nat) (n61 : Int) (n62 : Int) (H : Heap) (KN : Int → Oa → Oa → Nat → Nat → Int → Int → Bool → Option R) : Option R := L_small_p3_b k n56 p57 q58 l59 c60 n61 n62 H KN

abbrev L_small_p2_t (R : Type) : Type := Int → Oa → Nat → Nat → Int → Int → Heap → (Int → Oa → Nat → Nat → Int → Int → Heap → Option R) → Option R
def L_small_p2_b {R : Type} (L_small_p3 : L_small_p3_t R) (k : Nat) (n42 : Int) (q43 : Oa) (l44 : Nat) (c45 : Nat) (n46 : Int) (n47 : Int) (H : Heap) (KN : Int → Oa → Nat → Nat → Int → Int → Heap → Option R) : Option R :=
hidx q43 l44 n47 4 fun p48 =>
ldI .i64 H (pad p48 0) fun n49 =>
ldI .i64 H (pad p48 1) fun n50 =>
ldI .i64 H (pad p48 2) fun n51 =>
ldI .i64 H (pad p48 3) fun n52 =>
hal H [.int .i64 0,.int .i64 0,.int .i64 0,.int .i64 0] fun p53 H54 =>
hst H54 p53 [.int .i64 n49,.int .i64 n50,.int .i64 n51,.int .i64 n52] fun H55 =>
L_small_p3 n42 p53 q43 l44 c45 n46 n47 H55 (fun n83 p84 q85 l86 c87 n88 n89 t90 =>
bif t90 then (hfad 3 p84 fun p91 =>
ldI .i64 H55 p91 fun n92 =>
KN (IntKind.wrap .i64 (n83 + n92)) q85 l86 c87 n88 n89 H55)
 else (KN n83 q85 l86 c87 n88 n89 H55))
def L_small_p2 {R : Type} (k : Nat) (n42 : Int) (q43 : Oa) (l44 : Nat) (c45 : Nat) (n46 : Int) (n47 : Int) (H : Heap) (KN : Int → Oa → Nat → Nat → Int → Int → Heap → Option R) : Option R := L_small_p2_b (L_small_p3 k) k n42 q43 l44 c45 n46 n47 H KN

abbrev L_small_l1_t (R : Type) : Type := (Int → Heap → Option R) → Nat → Int → Oa → Nat → Nat → Int → Int → Heap → Option R
def L_small_l1_b {R : Type} (L_small_p2 : L_small_p2_t R) (rec : Int → Oa → Nat → Nat → Int → Int → Heap → Option R) (KE0 : Int → Heap → Option R) (k : Nat) (n36 : Int) (q37 : Oa) (l38 : Nat) (c39 : Nat) (n40 : Int) (n41 : Int) (H : Heap) : Option R :=
bif decide (n41 < n40) then (L_small_p2 n36 q37 l38 c39 n40 n41 H (fun n99 q100 l101 c102 n103 n104 H105 =>
rec n99 q100 l101 c102 n103 (IntKind.wrap .i64 (n104 + 1)) H105))
 else (KE0 n36 H)
def L_small_l1 {R : Type} (k : Nat) (KE0 : Int → Heap → Option R) : Nat → Int → Oa → Nat → Nat → Int → Int → Heap → Option R
  | 0,_,_,_,_,_,_,_ => none
  | n + 1,n36,q37,l38,c39,n40,n41,H => L_small_l1_b (L_small_p2 k) (L_small_l1 k KE0 n) KE0 k n36 q37 l38 c39 n40 n41 H

abbrev L_small_t (R : Type) : Type := Int → Int → Oa → Nat → Nat → Heap → (Bool → Heap → Option R) → Option R

def L_small_b {R : Type} (L_small_p0 : L_small_p0_t R) (L_small_l1 : L_small_l1_t R) (k : Nat) (n19 : Int) (n20 : Int) (q21 : Oa) (l22 : Nat) (c23 : Nat) (H : Heap) (K : Bool → Heap → Option R) : Option R :=
L_small_p0 n19 n20 q21 l22 c23 (fun q33 l34 c35 =>
L_small_l1 (fun n107 H108 =>
K (decide (n107 ≤ 65536)) H108) k 0 q33 l34 c35 ((l34 : Nat) : Int) 0 H) (fun t109 =>
K t109 H)

def L_small {R : Type} (k : Nat) (n19 : Int) (n20 : Int) (q21 : Oa) (l22 : Nat) (c23 : Nat) (H : Heap) (K : Bool → Heap → Option R) : Option R := L_small_b (L_small_p0 k) (L_small_l1 k) k n19 n20 q21 l22 c23 H K

def L_small_Ct {R : Type} : Tab R := fun _ _ _ _ => none
def L_small_C (R : Type) (k : Nat) : Tab R := L_small_Ct
theorem L_small_S (R : Type) (k : Nat) : CSound Try.prog (L_small_C R k) := csound_nil
def L_small_aa0 {R : Type} (f : L_small_p0_t R) (n : Nat) (vals : List Value) (H : Heap) (K : Xit → Env → Heap → Option R) : Option R :=
  match vals with
  | [.int .i64 n24,.int .i64 n25,.slice q26 l27 c28] => f n24 n25 q26 l27 c28 (fun q1462 l1463 c1464 => K .normal [(2,.slice q1462 l1463 c1464)] H) (fun t1465 => K .ret [(6,.bool t1465)] H)
  | _ => none
def L_small_a0 (R : Type) (k n : Nat) (vals : List Value) (H : Heap) (K : Xit → Env → Heap → Option R) : Option R := L_small_aa0 (L_small_p0 k) n vals H K
def L_small_aa1 {R : Type} (f : L_small_l1_t R) (n : Nat) (vals : List Value) (H : Heap) (K : Xit → Env → Heap → Option R) : Option R :=
  match vals with
  | [.int .i64 n36,.slice q37 l38 c39,.int .i64 n40,.int .i64 n41] => f (fun n1466 H => K (.exit 0) [(7,.int .i64 n1466)] H) n n36 q37 l38 c39 n40 n41 H
  | _ => none
def L_small_a1 (R : Type) (k n : Nat) (vals : List Value) (H : Heap) (K : Xit → Env → Heap → Option R) : Option R := L_small_aa1 (L_small_l1 k) n vals H K
def L_small_aa2 {R : Type} (f : L_small_p2_t R) (n : Nat) (vals : List Value) (H : Heap) (K : Xit → Env → Heap → Option R) : Option R :=
  match vals with
  | [.int .i64 n42,.slice q43 l44 c45,.int .i64 n46,.int .i64 n47] => f n42 q43 l44 c45 n46 n47 H (fun n1467 q1468 l1469 c1470 n1471 n1472 H => K .normal [(7,.int .i64 n1467),(21,.slice q1468 l1469 c1470),(22,.int .i64 n1471),(23,.int .i64 n1472)] H)
  | _ => none
def L_small_a2 (R : Type) (k n : Nat) (vals : List Value) (H : Heap) (K : Xit → Env → Heap → Option R) : Option R := L_small_aa2 (L_small_p2 k) n vals H K
def L_small_aa3 {R : Type} (f : L_small_p3_t R) (n : Nat) (vals : List Value) (H : Heap) (K : Xit → Env → Heap → Option R) : Option R :=
  match vals with
  | [.int .i64 n56,.pointer p57,.slice q58 l59 c60,.int .i64 n61,.int .i64 n62] => f n56 p57 q58 l59 c60 n61 n62 H (fun n1473 p1474 q1475 l1476 c1477 n1478 n1479 t1480 => K .normal [(7,.int .i64 n1473),(9,.pointer p1474),(21,.slice q1475 l1476 c1477),(22,.int .i64 n1478),(23,.int .i64 n1479),(44,.bool t1480)] H)
  | _ => none
def L_small_a3 (R : Type) (k n : Nat) (vals : List Value) (H : Heap) (K : Xit → Env → Heap → Option R) : Option R := L_small_aa3 (L_small_p3 k) n vals H K
def L_small_Jt {R : Type} (k : Nat) (L_small_p0 : L_small_p0_t R) (L_small_l1 : L_small_l1_t R) (L_small_p2 : L_small_p2_t R) (L_small_p3 : L_small_p3_t R) : JTab R := tcons 0 (L_small_aa0 L_small_p0 k) <| tcons 1 (L_small_aa1 L_small_l1 k) <| tcons 2 (L_small_aa2 L_small_p2 k) <| tcons 3 (L_small_aa3 L_small_p3 k) <| fun _ _ _ _ => none
def L_small_J (R : Type) (k : Nat) : JTab R := L_small_Jt k (L_small_p0 k) (L_small_l1 k) (L_small_p2 k) (L_small_p3 k)
def L_small_at : AT := (.seq (.reg [0,1,2] []) (.seq (.opq 0 [0,1,2] ⟨[2],[],[6]⟩ (.seq (.reg [2,20] []) (.cond (.seq (.reg [6] []) .leaf) .leaf))) (.seq (.reg [2,7] []) (.seq (.seq (.reg [7,21,22,23] []) (.node (.opq 1 [7,21,22,23] ⟨[],[(0,[7])],[]⟩ (.node (.seq (.reg [7,21,22,23,24] []) (.seq (.cond .leaf .leaf) (.seq (.opq 2 [7,21,22,23] ⟨[7,21,22,23],[],[]⟩ (.node (.seq (.reg [7,9,21,22,23] []) (.seq (.opq 3 [7,9,21,22,23] ⟨[7,9,21,22,23,44],[],[]⟩ (.reg [7,9,21,22,23,44] [])) (.cond (.reg [7,21,22,23] []) .leaf))))) (.reg [7,21,22,23] [])))))))) (.seq (.reg [6] []) .leaf)))))
def L_small_i3 : IC := (.reg [⟨some 27,.fad 0 (.t 9),none⟩,
⟨some 28,.ld (.sc (.int .i64)) (.t 27),none⟩,
⟨some 29,.cmp .eql (.t 28) (.c (Go.Value.int Go.IntKind.i64 1)),none⟩,
⟨some 30,.mov (.t 29),none⟩,
⟨some 31,.fad 0 (.t 9),some (30,false)⟩,
⟨some 32,.ld (.sc (.int .i64)) (.t 31),some (30,false)⟩,
⟨some 33,.cmp .eql (.t 32) (.c (Go.Value.int Go.IntKind.i64 3)),some (30,false)⟩,
⟨some 34,.pick (.t 30) (.c (Go.Value.bool true)) (.t 33),none⟩,
⟨some 35,.mov (.t 34),none⟩,
⟨some 36,.fad 3 (.t 9),some (35,true)⟩,
⟨some 37,.ld (.sc (.int .i64)) (.t 36),some (35,true)⟩,
⟨some 38,.cmp .gtr (.t 37) (.c (Go.Value.int Go.IntKind.i64 0)),some (35,true)⟩,
⟨some 39,.pick (.t 35) (.t 38) (.c (Go.Value.bool false)),none⟩,
⟨some 40,.mov (.t 39),none⟩,
⟨some 41,.fad 3 (.t 9),some (40,true)⟩,
⟨some 42,.ld (.sc (.int .i64)) (.t 41),some (40,true)⟩,
⟨some 43,.cmp .leq (.t 42) (.c (Go.Value.int Go.IntKind.i64 65536)),some (40,true)⟩,
⟨some 44,.pick (.t 40) (.t 43) (.c (Go.Value.bool false)),none⟩] [7,9,21,22,23,44])
def L_small_i2 : IC := (.block 1 (.seq (.reg [⟨some 25,.ids 4 (.t 21) (.t 23),none⟩,
⟨some 26,.ld (.agg [(.int .i64),(.int .i64),(.int .i64),(.int .i64)]) (.t 25),none⟩,
⟨some 9,.alc [.int .i64 0,.int .i64 0,.int .i64 0,.int .i64 0],none⟩,
⟨none,.st 4 (.t 9) (.t 26),none⟩] [7,9,21,22,23]) (.seq (.opq 3 [7,9,21,22,23] L_small_i3) (.cond (.t 44) (.reg [⟨some 45,.mov (.t 7),none⟩,
⟨some 46,.fad 3 (.t 9),none⟩,
⟨some 47,.ld (.sc (.int .i64)) (.t 46),none⟩,
⟨some 48,.bin .add .i64 (.t 45) (.t 47),none⟩,
⟨some 7,.mov (.t 48),none⟩] [7,21,22,23]) .skip))))
def L_small_i1 : IC := (.seq (.reg [⟨some 24,.cmp .lss (.t 23) (.t 22),none⟩] [7,21,22,23,24]) (.seq (.cond (.t 24) .skip (.exit 0)) (.seq (.opq 2 [7,21,22,23] L_small_i2) (.reg [⟨some 49,.bin .add .i64 (.t 23) (.c (Go.Value.int Go.IntKind.i64 1)),none⟩,
⟨some 23,.mov (.t 49),none⟩] [7,21,22,23]))))
def L_small_i0 : IC := (.seq (.reg [⟨some 10,.mov (.t 0),none⟩,
⟨some 11,.cmp .gtr (.t 10) (.c (Go.Value.int Go.IntKind.i64 64)),none⟩,
⟨some 12,.mov (.t 11),none⟩,
⟨some 13,.mov (.t 1),some (12,false)⟩,
⟨some 14,.cmp .gtr (.t 13) (.c (Go.Value.int Go.IntKind.i64 64)),some (12,false)⟩,
⟨some 15,.pick (.t 12) (.c (Go.Value.bool true)) (.t 14),none⟩,
⟨some 16,.mov (.t 15),none⟩,
⟨some 17,.mov (.t 2),some (16,false)⟩,
⟨some 18,.len false (.t 17),some (16,false)⟩,
⟨some 19,.cmp .gtr (.t 18) (.c (Go.Value.int Go.IntKind.i64 100)),some (16,false)⟩,
⟨some 20,.pick (.t 16) (.c (Go.Value.bool true)) (.t 19),none⟩] [2,20]) (.cond (.t 20) (.seq (.reg [⟨some 6,.mov (.c (Go.Value.bool false)),none⟩] [6]) .ret) .skip))
def L_small_f : IFn := ⟨52,[.t 6],(.seq (.reg [⟨some 6,.mov (.c (Go.Value.bool false)),none⟩] [0,1,2]) (.seq (.opq 0 [0,1,2] L_small_i0) (.seq (.reg [⟨some 7,.mov (.c (Go.Value.int Go.IntKind.i64 0)),none⟩] [2,7]) (.seq (.seq (.reg [⟨some 21,.mov (.t 2),none⟩,
⟨some 22,.len false (.t 21),none⟩,
⟨some 23,.mov (.c (Go.Value.int Go.IntKind.i64 0)),none⟩] [7,21,22,23]) (.block 0 (.opq 1 [7,21,22,23] (.loop L_small_i1)))) (.seq (.reg [⟨some 50,.mov (.t 7),none⟩,
⟨some 51,.cmp .leq (.t 50) (.c (Go.Value.int Go.IntKind.i64 65536)),none⟩,
⟨some 6,.mov (.t 51),none⟩] [6]) .ret)))))⟩
theorem L_small_e3 {R : Type} (L_small_p0 : L_small_p0_t R) (L_small_l1 : L_small_l1_t R) (L_small_p2 : L_small_p2_t R) (L_small_p3 : L_small_p3_t R) (k : Nat) (n56 : Int) (p57 : Oa) (q58 : Oa) (l59 : Nat) (c60 : Nat) (n61 : Int) (n62 : Int) (H : Heap) (K : Xit → Env → Heap → Option R) : evJ (L_small_Ct) (L_small_Jt k L_small_p0 L_small_l1 L_small_p2 L_small_p3) L_small_i3 (List.zip [7,9,21,22,23] [.int .i64 n56,.pointer p57,.slice q58 l59 c60,.int .i64 n61,.int .i64 n62]) H (fun x e' H' => K x (clean e' ((⟨[7,9,21,22,23,44],[],[]⟩ : Out).of x)) H') = L_small_p3_b k n56 p57 q58 l59 c60 n61 n62 H (fun n1473 p1474 q1475 l1476 c1477 n1478 n1479 t1480 => K .normal [(7,.int .i64 n1473),(9,.pointer p1474),(21,.slice q1475 l1476 c1477),(22,.int .i64 n1478),(23,.int .i64 n1479),(44,.bool t1480)] H) := by kernel_rfl
theorem L_small_j3 {R : Type} (k : Nat) : JS Try.prog 52 (L_small_a3 R k k) [7,9,21,22,23] ⟨[7,9,21,22,23,44],[],[]⟩ (sel [1,1,1,0,1,0,0,1,1,0,0,1,0] (Try.f16.body.getD .skip)) :=
  piece_ok (nt := 52) (c := (sel [1,1,1,0,1,0,0,1,1,0,0,1,0] (Try.f16.body.getD .skip))) (C := L_small_C R k) (an := An) (t := (.reg [7,9,21,22,23,44] [])) (ic := L_small_i3) (L_small_S R k) (L_small_J R k) (by kernel_rfl) True.intro (L_small_a3 R k k)
    (fun vals H K r h => by
      unfold L_small_a3 L_small_aa3 at h
      split at h <;> first | (cases h; done) | exact Eq.trans (L_small_e3 (L_small_p0 k) (L_small_l1 k) (L_small_p2 k) (L_small_p3 k) k _ _ _ _ _ _ _ H K) h)
theorem L_small_e2 {R : Type} (L_small_p0 : L_small_p0_t R) (L_small_l1 : L_small_l1_t R) (L_small_p2 : L_small_p2_t R) (L_small_p3 : L_small_p3_t R) (k : Nat) (n42 : Int) (q43 : Oa) (l44 : Nat) (c45 : Nat) (n46 : Int) (n47 : Int) (H : Heap) (K : Xit → Env → Heap → Option R) : evJ (L_small_Ct) (L_small_Jt k L_small_p0 L_small_l1 L_small_p2 L_small_p3) L_small_i2 (List.zip [7,21,22,23] [.int .i64 n42,.slice q43 l44 c45,.int .i64 n46,.int .i64 n47]) H (fun x e' H' => K x (clean e' ((⟨[7,21,22,23],[],[]⟩ : Out).of x)) H') = L_small_p2_b L_small_p3 k n42 q43 l44 c45 n46 n47 H (fun n1467 q1468 l1469 c1470 n1471 n1472 H => K .normal [(7,.int .i64 n1467),(21,.slice q1468 l1469 c1470),(22,.int .i64 n1471),(23,.int .i64 n1472)] H) := by kernel_rfl
theorem L_small_j2 {R : Type} (k : Nat) : JS Try.prog 52 (L_small_a2 R k k) [7,21,22,23] ⟨[7,21,22,23],[],[]⟩ (sel [1,1,1,0,1,0,0,1,1,0] (Try.f16.body.getD .skip)) :=
  piece_ok (nt := 52) (c := (sel [1,1,1,0,1,0,0,1,1,0] (Try.f16.body.getD .skip))) (C := L_small_C R k) (an := An) (t := (.node (.seq (.reg [7,9,21,22,23] []) (.seq (.opq 3 [7,9,21,22,23] ⟨[7,9,21,22,23,44],[],[]⟩ (.reg [7,9,21,22,23,44] [])) (.cond (.reg [7,21,22,23] []) .leaf))))) (ic := L_small_i2) (L_small_S R k) (L_small_J R k) (by kernel_rfl) (And.intro True.intro (And.intro (L_small_j3 k) (And.intro True.intro True.intro))) (L_small_a2 R k k)
    (fun vals H K r h => by
      unfold L_small_a2 L_small_aa2 at h
      split at h <;> first | (cases h; done) | exact Eq.trans (L_small_e2 (L_small_p0 k) (L_small_l1 k) (L_small_p2 k) (L_small_p3 k) k _ _ _ _ _ _ H K) h)
theorem L_small_e1 {R : Type} (L_small_p0 : L_small_p0_t R) (L_small_l1 : L_small_l1_t R) (L_small_p2 : L_small_p2_t R) (L_small_p3 : L_small_p3_t R) (k n : Nat) (n36 : Int) (q37 : Oa) (l38 : Nat) (c39 : Nat) (n40 : Int) (n41 : Int) (H : Heap) (K : Xit → Env → Heap → Option R) : evJ (L_small_Ct) (L_small_Jt k L_small_p0 L_small_l1 L_small_p2 L_small_p3) L_small_i1 (List.zip [7,21,22,23] [.int .i64 n36,.slice q37 l38 c39,.int .i64 n40,.int .i64 n41]) H (fun x e' H' => match x with | .normal => L_small_aa1 L_small_l1 n ((clean e' [7,21,22,23]).map (·.2)) H' K | x => K x (clean e' ((⟨[],[(0,[7])],[]⟩ : Out).of x)) H') = L_small_l1_b L_small_p2 (L_small_l1 (fun n1466 H => K (.exit 0) [(7,.int .i64 n1466)] H) n) (fun n1466 H => K (.exit 0) [(7,.int .i64 n1466)] H) k n36 q37 l38 c39 n40 n41 H := by kernel_rfl
theorem L_small_j1 {R : Type} (k : Nat) : JS Try.prog 52 (L_small_a1 R k k) [7,21,22,23] ⟨[],[(0,[7])],[]⟩ (.loop (sel [1,1,1,0,1,0,0] (Try.f16.body.getD .skip))) :=
  loop_ok (nt := 52) (c := (sel [1,1,1,0,1,0,0] (Try.f16.body.getD .skip))) (C := L_small_C R k) (an := An) (t := (.seq (.reg [7,21,22,23,24] []) (.seq (.cond .leaf .leaf) (.seq (.opq 2 [7,21,22,23] ⟨[7,21,22,23],[],[]⟩ (.node (.seq (.reg [7,9,21,22,23] []) (.seq (.opq 3 [7,9,21,22,23] ⟨[7,9,21,22,23,44],[],[]⟩ (.reg [7,9,21,22,23,44] [])) (.cond (.reg [7,21,22,23] []) .leaf))))) (.reg [7,21,22,23] []))))) (ic := L_small_i1) (L_small_S R k) (L_small_J R k) (by kernel_rfl) (And.intro True.intro (And.intro (And.intro True.intro True.intro) (And.intro (L_small_j2 k) True.intro))) (L_small_a1 R k) (fun vals H K => by unfold L_small_a1 L_small_aa1; split <;> rfl)
    (fun n vals H K r h => by
      unfold L_small_a1 L_small_aa1 at h
      split at h <;> first | (cases h; done) | exact Eq.trans (L_small_e1 (L_small_p0 k) (L_small_l1 k) (L_small_p2 k) (L_small_p3 k) k n _ _ _ _ _ _ H K) h) k
theorem L_small_e0 {R : Type} (L_small_p0 : L_small_p0_t R) (L_small_l1 : L_small_l1_t R) (L_small_p2 : L_small_p2_t R) (L_small_p3 : L_small_p3_t R) (k : Nat) (n24 : Int) (n25 : Int) (q26 : Oa) (l27 : Nat) (c28 : Nat) (H : Heap) (K : Xit → Env → Heap → Option R) : evJ (L_small_Ct) (L_small_Jt k L_small_p0 L_small_l1 L_small_p2 L_small_p3) L_small_i0 (List.zip [0,1,2] [.int .i64 n24,.int .i64 n25,.slice q26 l27 c28]) H (fun x e' H' => K x (clean e' ((⟨[2],[],[6]⟩ : Out).of x)) H') = L_small_p0_b k n24 n25 q26 l27 c28 (fun q1462 l1463 c1464 => K .normal [(2,.slice q1462 l1463 c1464)] H) (fun t1465 => K .ret [(6,.bool t1465)] H) := by kernel_rfl
theorem L_small_j0 {R : Type} (k : Nat) : JS Try.prog 52 (L_small_a0 R k k) [0,1,2] ⟨[2],[],[6]⟩ (sel [1,0] (Try.f16.body.getD .skip)) :=
  piece_ok (nt := 52) (c := (sel [1,0] (Try.f16.body.getD .skip))) (C := L_small_C R k) (an := An) (t := (.seq (.reg [2,20] []) (.cond (.seq (.reg [6] []) .leaf) .leaf))) (ic := L_small_i0) (L_small_S R k) (L_small_J R k) (by kernel_rfl) (And.intro True.intro (And.intro (And.intro True.intro True.intro) True.intro)) (L_small_a0 R k k)
    (fun vals H K r h => by
      unfold L_small_a0 L_small_aa0 at h
      split at h <;> first | (cases h; done) | exact Eq.trans (L_small_e0 (L_small_p0 k) (L_small_l1 k) (L_small_p2 k) (L_small_p3 k) k _ _ _ _ _ H K) h)
def L_small_ca {R : Type} (f : L_small_t R) (args : List Value) (H : Heap) (K : Value → Heap → Option R) : Option R :=
  match args with
  | [.int .i64 n19,.int .i64 n20,.slice q21 l22 c23] => f n19 n20 q21 l22 c23 H (fun t1481 H => K (.bool t1481) H)
  | _ => none
def L_small_c (R : Type) (k : Nat) (args : List Value) (H : Heap) (K : Value → Heap → Option R) : Option R := L_small_ca (L_small k) args H K
theorem L_small_e {R : Type} (L_small_p0 : L_small_p0_t R) (L_small_l1 : L_small_l1_t R) (L_small_p2 : L_small_p2_t R) (L_small_p3 : L_small_p3_t R) (k : Nat) (n19 : Int) (n20 : Int) (q21 : Oa) (l22 : Nat) (c23 : Nat) (H : Heap) (K : Value → Heap → Option R) : evF (L_small_Ct) (L_small_Jt k L_small_p0 L_small_l1 L_small_p2 L_small_p3) L_small_f [.int .i64 n19,.int .i64 n20,.slice q21 l22 c23] H K = L_small_b L_small_p0 L_small_l1 k n19 n20 q21 l22 c23 H (fun t1481 H => K (.bool t1481) H) := by kernel_rfl
theorem L_small_cs (R : Type) (k : Nat) : ∀ args H K r,L_small_c R k args H K = some r → ∃ v H',Tri Try.prog 16 args H v H' ∧ K v H' = some r := by
  intro args H K r h
  unfold L_small_c L_small_ca at h
  split at h
  · exact evF_ok (C := L_small_C R k) (an := An) (t := L_small_at) (fn := Try.f16) (c := (Try.f16.body.getD .skip)) (ifn := L_small_f) (L_small_S R k) (L_small_J R k) Try.func16 (by kernel_rfl) (by kernel_rfl) (And.intro True.intro (And.intro (L_small_j0 k) (And.intro True.intro (And.intro (And.intro True.intro (L_small_j1 k)) (And.intro True.intro True.intro))))) rfl (Eq.trans (L_small_e (L_small_p0 k) (L_small_l1 k) (L_small_p2 k) (L_small_p3 k) k _ _ _ _ _ H K) h)
  · cases h
end Go.Proofs.Ytblkejnciinaeaa.Sh
