/- Lean functions that stand for Go's,over an explicit heap,and the proofs that they do (written by this claim's program shallow.py). -/
import Derived.Test.YtblkejnciinaeaaSh0
set_option maxRecDepth 100000
set_option linter.unusedVariables false
set_option linter.unusedSimpArgs false
namespace Go.Proofs.Ytblkejnciinaeaa.Sh
open Go.Proofs.Ytblkejnciinaeaa.FW
/-! ### bitio_NewReader: function 30 -/
abbrev bitio_NewReader_t (R : Type) : Type := Oa → Nat → Nat → Heap → (Oa → Heap → Option R) → Option R

def bitio_NewReader_b {R : Type} (k : Nat) (q391 : Oa) (l392 : Nat) (c393 : Nat) (H : Heap) (K : Oa → Heap → Option R) : Option R :=
hapnS 1 1 H none 0 0 q391 l392 fun q394 l395 c396 H397 =>
hal H397 [.bool true,.slice q394 l395 c396,.int .i64 0,.int .i64 0] fun p398 H399 =>
K p398 H399

def bitio_NewReader {R : Type} (q391 : Oa) (l392 : Nat) (c393 : Nat) (H : Heap) (K : Oa → Heap → Option R) : Option R := bitio_NewReader_b 0 q391 l392 c393 H K

def bitio_NewReader_Ct {R : Type} : Tab R := fun _ _ _ _ => none
def bitio_NewReader_C (R : Type) (k : Nat) : Tab R := bitio_NewReader_Ct
theorem bitio_NewReader_S (R : Type) (k : Nat) : CSound Try.prog (bitio_NewReader_C R k) := csound_nil
def bitio_NewReader_Jt {R : Type} (k : Nat) : JTab R := fun _ _ _ _ => none
def bitio_NewReader_J (R : Type) (k : Nat) : JTab R := bitio_NewReader_Jt k
def bitio_NewReader_at : AT := (.seq (.reg [0] []) (.seq (.reg [2] []) .leaf))
def bitio_NewReader_f : IFn := ⟨7,[.t 2],(.seq (.reg [⟨some 2,.mov (.c (Go.Value.pointer none)),none⟩] [0]) (.seq (.reg [⟨some 3,.mov (.t 0),none⟩,
⟨some 4,.apn [.int .u8 0] 1 (.c (Go.Value.slice none 0 0)) (.t 3),none⟩,
⟨some 5,.bld [.bool false,.slice none 0 0,.int .i64 0,.int .i64 0] [(0,1,(.c (Go.Value.bool true))),(1,1,(.t 4))],none⟩,
⟨some 6,.box (.t 5),none⟩,
⟨some 2,.mov (.t 6),none⟩] [2]) .ret))⟩
def bitio_NewReader_ca {R : Type} (f : bitio_NewReader_t R) (args : List Value) (H : Heap) (K : Value → Heap → Option R) : Option R :=
  match args with
  | [.slice q391 l392 c393] => f q391 l392 c393 H (fun p1482 H => K (.pointer p1482) H)
  | _ => none
def bitio_NewReader_c (R : Type) (k : Nat) (args : List Value) (H : Heap) (K : Value → Heap → Option R) : Option R := bitio_NewReader_ca bitio_NewReader args H K
theorem bitio_NewReader_e {R : Type} (k : Nat) (q391 : Oa) (l392 : Nat) (c393 : Nat) (H : Heap) (K : Value → Heap → Option R) : evF (bitio_NewReader_Ct) (bitio_NewReader_Jt k) bitio_NewReader_f [.slice q391 l392 c393] H K = bitio_NewReader_b k q391 l392 c393 H (fun p1482 H => K (.pointer p1482) H) := by kernel_rfl
theorem bitio_NewReader_cs (R : Type) (k : Nat) : ∀ args H K r,bitio_NewReader_c R k args H K = some r → ∃ v H',Tri Try.prog 30 args H v H' ∧ K v H' = some r := by
  intro args H K r h
  unfold bitio_NewReader_c bitio_NewReader_ca at h
  split at h
  · exact evF_ok (C := bitio_NewReader_C R 0) (an := An) (t := bitio_NewReader_at) (fn := Try.f30) (c := (Try.f30.body.getD .skip)) (ifn := bitio_NewReader_f) (bitio_NewReader_S R 0) (bitio_NewReader_J R 0) Try.func30 (by kernel_rfl) (by kernel_rfl) (And.intro True.intro (And.intro True.intro True.intro)) rfl (Eq.trans (bitio_NewReader_e 0 _ _ _ H K) h)
  · cases h
/-! ### bitio_Reader_ok: function 58 -/
abbrev bitio_Reader_ok_t (R : Type) : Type := Oa → Heap → (Bool → Option R) → Option R

def bitio_Reader_ok_b {R : Type} (k : Nat) (p525 : Oa) (H : Heap) (K : Bool → Option R) : Option R :=
bif p525.isSome then (hnil p525 fun p526 =>
hfad 0 p526 fun p527 =>
ldB H p527 fun t528 =>
K t528)
 else (K false)

def bitio_Reader_ok {R : Type} (p525 : Oa) (H : Heap) (K : Bool → Option R) : Option R := bitio_Reader_ok_b 0 p525 H K

def bitio_Reader_ok_Ct {R : Type} : Tab R := fun _ _ _ _ => none
def bitio_Reader_ok_C (R : Type) (k : Nat) : Tab R := bitio_Reader_ok_Ct
theorem bitio_Reader_ok_S (R : Type) (k : Nat) : CSound Try.prog (bitio_Reader_ok_C R k) := csound_nil
def bitio_Reader_ok_Jt {R : Type} (k : Nat) : JTab R := fun _ _ _ _ => none
def bitio_Reader_ok_J (R : Type) (k : Nat) : JTab R := bitio_Reader_ok_Jt k
def bitio_Reader_ok_at : AT := (.seq (.reg [0] []) (.seq (.reg [2] []) .leaf))
def bitio_Reader_ok_f : IFn := ⟨11,[.t 2],(.seq (.reg [⟨some 2,.mov (.c (Go.Value.bool false)),none⟩] [0]) (.seq (.reg [⟨some 3,.mov (.t 0),none⟩,
⟨some 4,.eqnil (.t 3) true 0,none⟩,
⟨some 5,.mov (.t 4),none⟩,
⟨some 6,.mov (.t 0),some (5,true)⟩,
⟨some 7,.nilc (.t 6),some (5,true)⟩,
⟨some 8,.fad 0 (.t 7),some (5,true)⟩,
⟨some 9,.ld (.sc .bool) (.t 8),some (5,true)⟩,
⟨some 10,.pick (.t 5) (.t 9) (.c (Go.Value.bool false)),none⟩,
⟨some 2,.mov (.t 10),none⟩] [2]) .ret))⟩
def bitio_Reader_ok_ca {R : Type} (f : bitio_Reader_ok_t R) (args : List Value) (H : Heap) (K : Value → Heap → Option R) : Option R :=
  match args with
  | [.pointer p525] => f p525 H (fun t1483 => K (.bool t1483) H)
  | _ => none
def bitio_Reader_ok_c (R : Type) (k : Nat) (args : List Value) (H : Heap) (K : Value → Heap → Option R) : Option R := bitio_Reader_ok_ca bitio_Reader_ok args H K
theorem bitio_Reader_ok_e {R : Type} (k : Nat) (p525 : Oa) (H : Heap) (K : Value → Heap → Option R) : evF (bitio_Reader_ok_Ct) (bitio_Reader_ok_Jt k) bitio_Reader_ok_f [.pointer p525] H K = bitio_Reader_ok_b k p525 H (fun t1483 => K (.bool t1483) H) := by kernel_rfl
theorem bitio_Reader_ok_cs (R : Type) (k : Nat) : ∀ args H K r,bitio_Reader_ok_c R k args H K = some r → ∃ v H',Tri Try.prog 58 args H v H' ∧ K v H' = some r := by
  intro args H K r h
  unfold bitio_Reader_ok_c bitio_Reader_ok_ca at h
  split at h
  · exact evF_ok (C := bitio_Reader_ok_C R 0) (an := An) (t := bitio_Reader_ok_at) (fn := Try.f58) (c := (Try.f58.body.getD .skip)) (ifn := bitio_Reader_ok_f) (bitio_Reader_ok_S R 0) (bitio_Reader_ok_J R 0) Try.func58 (by kernel_rfl) (by kernel_rfl) (And.intro True.intro (And.intro True.intro True.intro)) rfl (Eq.trans (bitio_Reader_ok_e 0 _ H K) h)
  · cases h
/-! ### bitio_Reader_get: function 62 -/
abbrev bitio_Reader_get_p2_t (R : Type) : Type := Oa → Int → Heap → (Oa → Int → Bool → Option R) → Option R
def bitio_Reader_get_p2_b {R : Type} (k : Nat) (p576 : Oa) (n577 : Int) (H : Heap) (KN : Oa → Int → Bool → Option R) : Option R :=
hnil p576 fun p578 =>
hfad 2 p578 fun p579 =>
ldI .i64 H p579 fun n580 =>
bif decide (n580 > 0) then (hnil p576 fun p581 =>
hfad 1 p581 fun p582 =>
ldL H p582 fun q583 l584 c585 =>
hnil p576 fun p586 =>
hfad 2 p586 fun p587 =>
ldI .i64 H p587 fun n588 =>
hidx q583 l584 (IntKind.wrap .i64 (n588 - 1)) 1 fun p589 =>
ldI .u8 H p589 fun n590 =>
KN p576 n577 (n590 == 255))
 else (KN p576 n577 false)
def bitio_Reader_get_p2 {R : Type} (k : Nat) (p576 : Oa) (n577 : Int) (H : Heap) (KN : Oa → Int → Bool → Option R) : Option R := bitio_Reader_get_p2_b k p576 n577 H KN

abbrev bitio_Reader_get_p1_t (R : Type) : Type := Oa → Int → Heap → (Oa → Int → Option R) → (Int → Int → Option R) → Option R
def bitio_Reader_get_p1_b {R : Type} (bitio_Reader_get_p2 : bitio_Reader_get_p2_t R) (k : Nat) (p574 : Oa) (n575 : Int) (H : Heap) (KN : Oa → Int → Option R) (KR : Int → Int → Option R) : Option R :=
bitio_Reader_get_p2 p574 n575 H (fun p594 n595 t596 =>
bif t596 then (hnil p594 fun p597 =>
hfad 1 p597 fun p598 =>
ldL H p598 fun q599 l600 c601 =>
hnil p594 fun p602 =>
hfad 2 p602 fun p603 =>
ldI .i64 H p603 fun n604 =>
hidx q599 l600 n604 1 fun p605 =>
ldI .u8 H p605 fun n606 =>
bif decide (n606 ≥ 128) then (KR 0 8)
 else (KN p594 7))
 else (KN p594 n595))
def bitio_Reader_get_p1 {R : Type} (k : Nat) (p574 : Oa) (n575 : Int) (H : Heap) (KN : Oa → Int → Option R) (KR : Int → Int → Option R) : Option R := bitio_Reader_get_p1_b (bitio_Reader_get_p2 k) k p574 n575 H KN KR

abbrev bitio_Reader_get_p0_t (R : Type) : Type := Oa → Heap → (Oa → Heap → Option R) → (Int → Int → Heap → Option R) → Option R
def bitio_Reader_get_p0_b {R : Type} (bitio_Reader_get_p1 : bitio_Reader_get_p1_t R) (k : Nat) (p562 : Oa) (H : Heap) (KN : Oa → Heap → Option R) (KR : Int → Int → Heap → Option R) : Option R :=
hnil p562 fun p563 =>
hfad 3 p563 fun p564 =>
ldI .i64 H p564 fun n565 =>
bif (n565 == 0) then (hnil p562 fun p566 =>
hfad 2 p566 fun p567 =>
ldI .i64 H p567 fun n568 =>
hnil p562 fun p569 =>
hfad 1 p569 fun p570 =>
ldL H p570 fun q571 l572 c573 =>
bif (n568 == ((l572 : Nat) : Int)) then (KR 0 7 H)
 else (bitio_Reader_get_p1 p562 8 H (fun p611 n612 =>
hnil p611 fun p613 =>
hfad 2 p613 fun p614 =>
ldI .i64 H p614 fun n615 =>
hnil p611 fun p616 =>
hfad 2 p616 fun p617 =>
hst1 H p617 (.int .i64 (IntKind.wrap .i64 (n615 + 1))) fun H618 =>
hnil p611 fun p619 =>
hfad 3 p619 fun p620 =>
hst1 H618 p620 (.int .i64 n612) fun H621 =>
KN p611 H621) (fun n622 n623 =>
KR n622 n623 H)))
 else (KN p562 H)
def bitio_Reader_get_p0 {R : Type} (k : Nat) (p562 : Oa) (H : Heap) (KN : Oa → Heap → Option R) (KR : Int → Int → Heap → Option R) : Option R := bitio_Reader_get_p0_b (bitio_Reader_get_p1 k) k p562 H KN KR

abbrev bitio_Reader_get_t (R : Type) : Type := Oa → Heap → (Int → Int → Heap → Option R) → Option R

def bitio_Reader_get_b {R : Type} (bitio_Reader_get_p0 : bitio_Reader_get_p0_t R) (k : Nat) (p561 : Oa) (H : Heap) (K : Int → Int → Heap → Option R) : Option R :=
bitio_Reader_get_p0 p561 H (fun p627 H628 =>
hnil p627 fun p629 =>
hfad 3 p629 fun p630 =>
ldI .i64 H628 p630 fun n631 =>
hnil p627 fun p632 =>
hfad 3 p632 fun p633 =>
hst1 H628 p633 (.int .i64 (IntKind.wrap .i64 (n631 - 1))) fun H634 =>
hnil p627 fun p635 =>
hfad 1 p635 fun p636 =>
ldL H634 p636 fun q637 l638 c639 =>
hnil p627 fun p640 =>
hfad 2 p640 fun p641 =>
ldI .i64 H634 p641 fun n642 =>
hidx q637 l638 (IntKind.wrap .i64 (n642 - 1)) 1 fun p643 =>
ldI .u8 H634 p643 fun n644 =>
hnil p627 fun p645 =>
hfad 3 p645 fun p646 =>
ldI .i64 H634 p646 fun n647 =>
hbin .shr .u8 n644 (IntKind.wrap .u64 n647) fun n648 =>
hbin .and .i64 (IntKind.wrap .i64 n648) 1 fun n649 =>
K n649 0 H634) (fun n650 n651 H652 =>
K n650 n651 H652)

def bitio_Reader_get {R : Type} (k : Nat) (p561 : Oa) (H : Heap) (K : Int → Int → Heap → Option R) : Option R := bitio_Reader_get_b (bitio_Reader_get_p0 k) k p561 H K

def bitio_Reader_get_Ct {R : Type} : Tab R := fun _ _ _ _ => none
def bitio_Reader_get_C (R : Type) (k : Nat) : Tab R := bitio_Reader_get_Ct
theorem bitio_Reader_get_S (R : Type) (k : Nat) : CSound Try.prog (bitio_Reader_get_C R k) := csound_nil
def bitio_Reader_get_aa0 {R : Type} (f : bitio_Reader_get_p0_t R) (n : Nat) (vals : List Value) (H : Heap) (K : Xit → Env → Heap → Option R) : Option R :=
  match vals with
  | [.pointer p562] => f p562 H (fun p1484 H => K .normal [(0,.pointer p1484)] H) (fun n1485 n1486 H => K .ret [(2,.int .i64 n1485),(3,.int .i64 n1486)] H)
  | _ => none
def bitio_Reader_get_a0 (R : Type) (k n : Nat) (vals : List Value) (H : Heap) (K : Xit → Env → Heap → Option R) : Option R := bitio_Reader_get_aa0 (bitio_Reader_get_p0 k) n vals H K
def bitio_Reader_get_aa1 {R : Type} (f : bitio_Reader_get_p1_t R) (n : Nat) (vals : List Value) (H : Heap) (K : Xit → Env → Heap → Option R) : Option R :=
  match vals with
  | [.pointer p574,.int .i64 n575] => f p574 n575 H (fun p1487 n1488 => K .normal [(0,.pointer p1487),(4,.int .i64 n1488)] H) (fun n1489 n1490 => K .ret [(2,.int .i64 n1489),(3,.int .i64 n1490)] H)
  | _ => none
def bitio_Reader_get_a1 (R : Type) (k n : Nat) (vals : List Value) (H : Heap) (K : Xit → Env → Heap → Option R) : Option R := bitio_Reader_get_aa1 (bitio_Reader_get_p1 k) n vals H K
def bitio_Reader_get_aa2 {R : Type} (f : bitio_Reader_get_p2_t R) (n : Nat) (vals : List Value) (H : Heap) (K : Xit → Env → Heap → Option R) : Option R :=
  match vals with
  | [.pointer p576,.int .i64 n577] => f p576 n577 H (fun p1491 n1492 t1493 => K .normal [(0,.pointer p1491),(4,.int .i64 n1492),(38,.bool t1493)] H)
  | _ => none
def bitio_Reader_get_a2 (R : Type) (k n : Nat) (vals : List Value) (H : Heap) (K : Xit → Env → Heap → Option R) : Option R := bitio_Reader_get_aa2 (bitio_Reader_get_p2 k) n vals H K
def bitio_Reader_get_Jt {R : Type} (k : Nat) (bitio_Reader_get_p0 : bitio_Reader_get_p0_t R) (bitio_Reader_get_p1 : bitio_Reader_get_p1_t R) (bitio_Reader_get_p2 : bitio_Reader_get_p2_t R) : JTab R := tcons 0 (bitio_Reader_get_aa0 bitio_Reader_get_p0 k) <| tcons 1 (bitio_Reader_get_aa1 bitio_Reader_get_p1 k) <| tcons 2 (bitio_Reader_get_aa2 bitio_Reader_get_p2 k) <| fun _ _ _ _ => none
def bitio_Reader_get_J (R : Type) (k : Nat) : JTab R := bitio_Reader_get_Jt k (bitio_Reader_get_p0 k) (bitio_Reader_get_p1 k) (bitio_Reader_get_p2 k)
def bitio_Reader_get_at : AT := (.seq (.reg [0] []) (.seq (.opq 0 [0] ⟨[0],[],[2,3]⟩ (.seq (.reg [0,9] []) (.cond (.seq (.seq (.reg [0,19] [[],[0],[0,1],[0,1,2],[],[4],[4,5],[4,5,6],[4,5,6,7],[0,1,2,3,4,5,6,7,8]]) (.cond (.seq (.reg [2,3] []) .leaf) .leaf)) (.seq (.reg [0,4] []) (.seq (.opq 1 [0,4] ⟨[0,4],[],[2,3]⟩ (.seq (.opq 2 [0,4] ⟨[0,4,38],[],[]⟩ (.reg [0,4,38] [[],[0],[0,1],[0,1,2],[0,1,2,3],[0,1,2,3,4],[0,1,2,3,4,5],[0,1,2,3,4,5,6],[0,1,2,3,4,5,6,7],[0,1,2,3,4,5,6,7,8],[0,1,2,3,4,5],[0,1,2,3,4,5,10],[0,1,2,3,4,5,10,11],[0,1,2,3,4,5,10,11,12],[0,1,2,3,4,5,10,11,12,13],[0,1,2,3,4,5,6,7,8,9,10,11,12,13,14],[0,1,2,3,4,5,6,7,8,9,10,11,12,13,14,15],[0,1,2,3,4,5,6,7,8,9,10,11,12,13,14,15,16],[0,1,2,3,4,5,6,7,8,9,10,11,12,13,14,15,16,17]])) (.cond (.seq (.seq (.reg [0,49] [[],[0],[0,1],[0,1,2],[],[4],[4,5],[4,5,6],[0,1,2,3,4,5,6,7],[0,1,2,3,4,5,6,7,8],[0,1,2,3,4,5,6,7,8,9]]) (.cond (.seq (.reg [2,3] []) .leaf) .leaf)) (.reg [0,4] [])) .leaf))) (.seq (.reg [0,4] []) (.reg [0] []))))) .leaf))) (.seq (.reg [0] []) (.seq (.reg [2,3] [[],[0],[0,1],[0,1,2],[],[4],[4,5],[4,5,6],[4,5,6,7],[0,1,2,3,4,5,6,7,8],[0,1,2,3,4,5,6,7,8,9],[],[11],[11,12],[11,12,13],[11,12,13,14],[0,1,2,3,4,5,6,7,8,9,10,11,12,13,14,15],[0,1,2,3,4,5,6,7,8,9,10,11,12,13,14,15,16],[0,1,2,3,4,5,6,7,8,9,10,11,12,13,14,15,16,17],[0,1,2,3,4,5,6,7,8,9,10,11,12,13,14,15,16,17,18],[0,1,2,3,4,5,6,7,8,9,10,11,12,13,14,15,16,17,18,19]]) .leaf))))
def bitio_Reader_get_i2 : IC := (.reg [⟨some 20,.mov (.t 0),none⟩,
⟨some 21,.nilc (.t 20),none⟩,
⟨some 22,.fad 2 (.t 21),none⟩,
⟨some 23,.ld (.sc (.int .i64)) (.t 22),none⟩,
⟨some 24,.cmp .gtr (.t 23) (.c (Go.Value.int Go.IntKind.i64 0)),none⟩,
⟨some 25,.mov (.t 24),none⟩,
⟨some 26,.mov (.t 0),some (25,true)⟩,
⟨some 27,.nilc (.t 26),some (25,true)⟩,
⟨some 28,.fad 1 (.t 27),some (25,true)⟩,
⟨some 29,.ld (.sc .slc) (.t 28),some (25,true)⟩,
⟨some 30,.mov (.t 0),some (25,true)⟩,
⟨some 31,.nilc (.t 30),some (25,true)⟩,
⟨some 32,.fad 2 (.t 31),some (25,true)⟩,
⟨some 33,.ld (.sc (.int .i64)) (.t 32),some (25,true)⟩,
⟨some 34,.bin .sub .i64 (.t 33) (.c (Go.Value.int Go.IntKind.i64 1)),some (25,true)⟩,
⟨some 35,.ids 1 (.t 29) (.t 34),some (25,true)⟩,
⟨some 36,.ld (.sc (.int .u8)) (.t 35),some (25,true)⟩,
⟨some 37,.cmp .eql (.t 36) (.c (Go.Value.int Go.IntKind.u8 255)),some (25,true)⟩,
⟨some 38,.pick (.t 25) (.t 37) (.c (Go.Value.bool false)),none⟩] [0,4,38])
def bitio_Reader_get_i1 : IC := (.seq (.opq 2 [0,4] bitio_Reader_get_i2) (.cond (.t 38) (.seq (.seq (.reg [⟨some 39,.mov (.t 0),none⟩,
⟨some 40,.nilc (.t 39),none⟩,
⟨some 41,.fad 1 (.t 40),none⟩,
⟨some 42,.ld (.sc .slc) (.t 41),none⟩,
⟨some 43,.mov (.t 0),none⟩,
⟨some 44,.nilc (.t 43),none⟩,
⟨some 45,.fad 2 (.t 44),none⟩,
⟨some 46,.ld (.sc (.int .i64)) (.t 45),none⟩,
⟨some 47,.ids 1 (.t 42) (.t 46),none⟩,
⟨some 48,.ld (.sc (.int .u8)) (.t 47),none⟩,
⟨some 49,.cmp .geq (.t 48) (.c (Go.Value.int Go.IntKind.u8 128)),none⟩] [0,49]) (.cond (.t 49) (.seq (.reg [⟨some 2,.mov (.c (Go.Value.int Go.IntKind.i64 0)),none⟩,
⟨some 3,.mov (.c (Go.Value.int Go.IntKind.i64 8)),none⟩] [2,3]) .ret) .skip)) (.reg [⟨some 4,.mov (.c (Go.Value.int Go.IntKind.i64 7)),none⟩] [0,4])) .skip))
def bitio_Reader_get_i0 : IC := (.seq (.reg [⟨some 5,.mov (.t 0),none⟩,
⟨some 6,.nilc (.t 5),none⟩,
⟨some 7,.fad 3 (.t 6),none⟩,
⟨some 8,.ld (.sc (.int .i64)) (.t 7),none⟩,
⟨some 9,.cmp .eql (.t 8) (.c (Go.Value.int Go.IntKind.i64 0)),none⟩] [0,9]) (.cond (.t 9) (.seq (.seq (.reg [⟨some 10,.mov (.t 0),none⟩,
⟨some 11,.nilc (.t 10),none⟩,
⟨some 12,.fad 2 (.t 11),none⟩,
⟨some 13,.ld (.sc (.int .i64)) (.t 12),none⟩,
⟨some 14,.mov (.t 0),none⟩,
⟨some 15,.nilc (.t 14),none⟩,
⟨some 16,.fad 1 (.t 15),none⟩,
⟨some 17,.ld (.sc .slc) (.t 16),none⟩,
⟨some 18,.len false (.t 17),none⟩,
⟨some 19,.cmp .eql (.t 13) (.t 18),none⟩] [0,19]) (.cond (.t 19) (.seq (.reg [⟨some 2,.mov (.c (Go.Value.int Go.IntKind.i64 0)),none⟩,
⟨some 3,.mov (.c (Go.Value.int Go.IntKind.i64 7)),none⟩] [2,3]) .ret) .skip)) (.seq (.reg [⟨some 4,.mov (.c (Go.Value.int Go.IntKind.i64 8)),none⟩] [0,4]) (.seq (.opq 1 [0,4] bitio_Reader_get_i1) (.seq (.reg [⟨some 50,.mov (.t 0),none⟩,
⟨some 51,.nilc (.t 50),none⟩,
⟨some 52,.fad 2 (.t 51),none⟩,
⟨some 53,.ld (.sc (.int .i64)) (.t 52),none⟩,
⟨some 54,.bin .add .i64 (.t 53) (.c (Go.Value.int Go.IntKind.i64 1)),none⟩,
⟨some 55,.nilc (.t 50),none⟩,
⟨some 56,.fad 2 (.t 55),none⟩,
⟨none,.st 1 (.t 56) (.t 54),none⟩] [0,4]) (.reg [⟨some 57,.mov (.t 0),none⟩,
⟨some 58,.mov (.t 4),none⟩,
⟨some 59,.nilc (.t 57),none⟩,
⟨some 60,.fad 3 (.t 59),none⟩,
⟨none,.st 1 (.t 60) (.t 58),none⟩] [0]))))) .skip))
def bitio_Reader_get_f : IFn := ⟨87,[.t 2,.t 3],(.seq (.reg [⟨some 2,.mov (.c (Go.Value.int Go.IntKind.i64 0)),none⟩,
⟨some 3,.mov (.c (Go.Value.int Go.IntKind.i64 0)),none⟩] [0]) (.seq (.opq 0 [0] bitio_Reader_get_i0) (.seq (.reg [⟨some 61,.mov (.t 0),none⟩,
⟨some 62,.nilc (.t 61),none⟩,
⟨some 63,.fad 3 (.t 62),none⟩,
⟨some 64,.ld (.sc (.int .i64)) (.t 63),none⟩,
⟨some 65,.bin .sub .i64 (.t 64) (.c (Go.Value.int Go.IntKind.i64 1)),none⟩,
⟨some 66,.nilc (.t 61),none⟩,
⟨some 67,.fad 3 (.t 66),none⟩,
⟨none,.st 1 (.t 67) (.t 65),none⟩] [0]) (.seq (.reg [⟨some 68,.mov (.t 0),none⟩,
⟨some 69,.nilc (.t 68),none⟩,
⟨some 70,.fad 1 (.t 69),none⟩,
⟨some 71,.ld (.sc .slc) (.t 70),none⟩,
⟨some 72,.mov (.t 0),none⟩,
⟨some 73,.nilc (.t 72),none⟩,
⟨some 74,.fad 2 (.t 73),none⟩,
⟨some 75,.ld (.sc (.int .i64)) (.t 74),none⟩,
⟨some 76,.bin .sub .i64 (.t 75) (.c (Go.Value.int Go.IntKind.i64 1)),none⟩,
⟨some 77,.ids 1 (.t 71) (.t 76),none⟩,
⟨some 78,.ld (.sc (.int .u8)) (.t 77),none⟩,
⟨some 79,.mov (.t 0),none⟩,
⟨some 80,.nilc (.t 79),none⟩,
⟨some 81,.fad 3 (.t 80),none⟩,
⟨some 82,.ld (.sc (.int .i64)) (.t 81),none⟩,
⟨some 83,.cnv .u64 (.t 82),none⟩,
⟨some 84,.bin .shr .u8 (.t 78) (.t 83),none⟩,
⟨some 85,.cnv .i64 (.t 84),none⟩,
⟨some 86,.bin .and .i64 (.t 85) (.c (Go.Value.int Go.IntKind.i64 1)),none⟩,
⟨some 2,.mov (.t 86),none⟩,
⟨some 3,.mov (.c (Go.Value.int Go.IntKind.i64 0)),none⟩] [2,3]) .ret))))⟩
theorem bitio_Reader_get_e2 {R : Type} (bitio_Reader_get_p0 : bitio_Reader_get_p0_t R) (bitio_Reader_get_p1 : bitio_Reader_get_p1_t R) (bitio_Reader_get_p2 : bitio_Reader_get_p2_t R) (k : Nat) (p576 : Oa) (n577 : Int) (H : Heap) (K : Xit → Env → Heap → Option R) : evJ (bitio_Reader_get_Ct) (bitio_Reader_get_Jt k bitio_Reader_get_p0 bitio_Reader_get_p1 bitio_Reader_get_p2) bitio_Reader_get_i2 (List.zip [0,4] [.pointer p576,.int .i64 n577]) H (fun x e' H' => K x (clean e' ((⟨[0,4,38],[],[]⟩ : Out).of x)) H') = bitio_Reader_get_p2_b k p576 n577 H (fun p1491 n1492 t1493 => K .normal [(0,.pointer p1491),(4,.int .i64 n1492),(38,.bool t1493)] H) := by kernel_rfl
theorem bitio_Reader_get_j2 {R : Type} (k : Nat) : JS Try.prog 87 (bitio_Reader_get_a2 R k k) [0,4] ⟨[0,4,38],[],[]⟩ (sel [1,0,1,0,1,1,0,0] (Try.f62.body.getD .skip)) :=
  piece_ok (nt := 87) (c := (sel [1,0,1,0,1,1,0,0] (Try.f62.body.getD .skip))) (C := bitio_Reader_get_C R k) (an := An) (t := (.reg [0,4,38] [[],[0],[0,1],[0,1,2],[0,1,2,3],[0,1,2,3,4],[0,1,2,3,4,5],[0,1,2,3,4,5,6],[0,1,2,3,4,5,6,7],[0,1,2,3,4,5,6,7,8],[0,1,2,3,4,5],[0,1,2,3,4,5,10],[0,1,2,3,4,5,10,11],[0,1,2,3,4,5,10,11,12],[0,1,2,3,4,5,10,11,12,13],[0,1,2,3,4,5,6,7,8,9,10,11,12,13,14],[0,1,2,3,4,5,6,7,8,9,10,11,12,13,14,15],[0,1,2,3,4,5,6,7,8,9,10,11,12,13,14,15,16],[0,1,2,3,4,5,6,7,8,9,10,11,12,13,14,15,16,17]])) (ic := bitio_Reader_get_i2) (bitio_Reader_get_S R k) (bitio_Reader_get_J R k) (by kernel_rfl) True.intro (bitio_Reader_get_a2 R k k)
    (fun vals H K r h => by
      unfold bitio_Reader_get_a2 bitio_Reader_get_aa2 at h
      split at h <;> first | (cases h; done) | exact Eq.trans (bitio_Reader_get_e2 (bitio_Reader_get_p0 k) (bitio_Reader_get_p1 k) (bitio_Reader_get_p2 k) k _ _ H K) h)
theorem bitio_Reader_get_e1 {R : Type} (bitio_Reader_get_p0 : bitio_Reader_get_p0_t R) (bitio_Reader_get_p1 : bitio_Reader_get_p1_t R) (bitio_Reader_get_p2 : bitio_Reader_get_p2_t R) (k : Nat) (p574 : Oa) (n575 : Int) (H : Heap) (K : Xit → Env → Heap → Option R) : evJ (bitio_Reader_get_Ct) (bitio_Reader_get_Jt k bitio_Reader_get_p0 bitio_Reader_get_p1 bitio_Reader_get_p2) bitio_Reader_get_i1 (List.zip [0,4] [.pointer p574,.int .i64 n575]) H (fun x e' H' => K x (clean e' ((⟨[0,4],[],[2,3]⟩ : Out).of x)) H') = bitio_Reader_get_p1_b bitio_Reader_get_p2 k p574 n575 H (fun p1487 n1488 => K .normal [(0,.pointer p1487),(4,.int .i64 n1488)] H) (fun n1489 n1490 => K .ret [(2,.int .i64 n1489),(3,.int .i64 n1490)] H) := by kernel_rfl
theorem bitio_Reader_get_j1 {R : Type} (k : Nat) : JS Try.prog 87 (bitio_Reader_get_a1 R k k) [0,4] ⟨[0,4],[],[2,3]⟩ (sel [1,0,1,0,1,1,0] (Try.f62.body.getD .skip)) :=
  piece_ok (nt := 87) (c := (sel [1,0,1,0,1,1,0] (Try.f62.body.getD .skip))) (C := bitio_Reader_get_C R k) (an := An) (t := (.seq (.opq 2 [0,4] ⟨[0,4,38],[],[]⟩ (.reg [0,4,38] [[],[0],[0,1],[0,1,2],[0,1,2,3],[0,1,2,3,4],[0,1,2,3,4,5],[0,1,2,3,4,5,6],[0,1,2,3,4,5,6,7],[0,1,2,3,4,5,6,7,8],[0,1,2,3,4,5],[0,1,2,3,4,5,10],[0,1,2,3,4,5,10,11],[0,1,2,3,4,5,10,11,12],[0,1,2,3,4,5,10,11,12,13],[0,1,2,3,4,5,6,7,8,9,10,11,12,13,14],[0,1,2,3,4,5,6,7,8,9,10,11,12,13,14,15],[0,1,2,3,4,5,6,7,8,9,10,11,12,13,14,15,16],[0,1,2,3,4,5,6,7,8,9,10,11,12,13,14,15,16,17]])) (.cond (.seq (.seq (.reg [0,49] [[],[0],[0,1],[0,1,2],[],[4],[4,5],[4,5,6],[0,1,2,3,4,5,6,7],[0,1,2,3,4,5,6,7,8],[0,1,2,3,4,5,6,7,8,9]]) (.cond (.seq (.reg [2,3] []) .leaf) .leaf)) (.reg [0,4] [])) .leaf))) (ic := bitio_Reader_get_i1) (bitio_Reader_get_S R k) (bitio_Reader_get_J R k) (by kernel_rfl) (And.intro (bitio_Reader_get_j2 k) (And.intro (And.intro (And.intro True.intro (And.intro (And.intro True.intro True.intro) True.intro)) True.intro) True.intro)) (bitio_Reader_get_a1 R k k)
    (fun vals H K r h => by
      unfold bitio_Reader_get_a1 bitio_Reader_get_aa1 at h
      split at h <;> first | (cases h; done) | exact Eq.trans (bitio_Reader_get_e1 (bitio_Reader_get_p0 k) (bitio_Reader_get_p1 k) (bitio_Reader_get_p2 k) k _ _ H K) h)
theorem bitio_Reader_get_e0 {R : Type} (bitio_Reader_get_p0 : bitio_Reader_get_p0_t R) (bitio_Reader_get_p1 : bitio_Reader_get_p1_t R) (bitio_Reader_get_p2 : bitio_Reader_get_p2_t R) (k : Nat) (p562 : Oa) (H : Heap) (K : Xit → Env → Heap → Option R) : evJ (bitio_Reader_get_Ct) (bitio_Reader_get_Jt k bitio_Reader_get_p0 bitio_Reader_get_p1 bitio_Reader_get_p2) bitio_Reader_get_i0 (List.zip [0] [.pointer p562]) H (fun x e' H' => K x (clean e' ((⟨[0],[],[2,3]⟩ : Out).of x)) H') = bitio_Reader_get_p0_b bitio_Reader_get_p1 k p562 H (fun p1484 H => K .normal [(0,.pointer p1484)] H) (fun n1485 n1486 H => K .ret [(2,.int .i64 n1485),(3,.int .i64 n1486)] H) := by kernel_rfl
theorem bitio_Reader_get_j0 {R : Type} (k : Nat) : JS Try.prog 87 (bitio_Reader_get_a0 R k k) [0] ⟨[0],[],[2,3]⟩ (sel [1,0] (Try.f62.body.getD .skip)) :=
  piece_ok (nt := 87) (c := (sel [1,0] (Try.f62.body.getD .skip))) (C := bitio_Reader_get_C R k) (an := An) (t := (.seq (.reg [0,9] []) (.cond (.seq (.seq (.reg [0,19] [[],[0],[0,1],[0,1,2],[],[4],[4,5],[4,5,6],[4,5,6,7],[0,1,2,3,4,5,6,7,8]]) (.cond (.seq (.reg [2,3] []) .leaf) .leaf)) (.seq (.reg [0,4] []) (.seq (.opq 1 [0,4] ⟨[0,4],[],[2,3]⟩ (.seq (.opq 2 [0,4] ⟨[0,4,38],[],[]⟩ (.reg [0,4,38] [[],[0],[0,1],[0,1,2],[0,1,2,3],[0,1,2,3,4],[0,1,2,3,4,5],[0,1,2,3,4,5,6],[0,1,2,3,4,5,6,7],[0,1,2,3,4,5,6,7,8],[0,1,2,3,4,5],[0,1,2,3,4,5,10],[0,1,2,3,4,5,10,11],[0,1,2,3,4,5,10,11,12],[0,1,2,3,4,5,10,11,12,13],[0,1,2,3,4,5,6,7,8,9,10,11,12,13,14],[0,1,2,3,4,5,6,7,8,9,10,11,12,13,14,15],[0,1,2,3,4,5,6,7,8,9,10,11,12,13,14,15,16],[0,1,2,3,4,5,6,7,8,9,10,11,12,13,14,15,16,17]])) (.cond (.seq (.seq (.reg [0,49] [[],[0],[0,1],[0,1,2],[],[4],[4,5],[4,5,6],[0,1,2,3,4,5,6,7],[0,1,2,3,4,5,6,7,8],[0,1,2,3,4,5,6,7,8,9]]) (.cond (.seq (.reg [2,3] []) .leaf) .leaf)) (.reg [0,4] [])) .leaf))) (.seq (.reg [0,4] []) (.reg [0] []))))) .leaf))) (ic := bitio_Reader_get_i0) (bitio_Reader_get_S R k) (bitio_Reader_get_J R k) (by kernel_rfl) (And.intro True.intro (And.intro (And.intro (And.intro True.intro (And.intro (And.intro True.intro True.intro) True.intro)) (And.intro True.intro (And.intro (bitio_Reader_get_j1 k) (And.intro True.intro True.intro)))) True.intro)) (bitio_Reader_get_a0 R k k)
    (fun vals H K r h => by
      unfold bitio_Reader_get_a0 bitio_Reader_get_aa0 at h
      split at h <;> first | (cases h; done) | exact Eq.trans (bitio_Reader_get_e0 (bitio_Reader_get_p0 k) (bitio_Reader_get_p1 k) (bitio_Reader_get_p2 k) k _ H K) h)
def bitio_Reader_get_ca {R : Type} (f : bitio_Reader_get_t R) (args : List Value) (H : Heap) (K : Value → Heap → Option R) : Option R :=
  match args with
  | [.pointer p561] => f p561 H (fun n1494 n1495 H => K (.tuple ⟨[.int .i64 n1494,.int .i64 n1495]⟩) H)
  | _ => none
def bitio_Reader_get_c (R : Type) (k : Nat) (args : List Value) (H : Heap) (K : Value → Heap → Option R) : Option R := bitio_Reader_get_ca (bitio_Reader_get k) args H K
theorem bitio_Reader_get_e {R : Type} (bitio_Reader_get_p0 : bitio_Reader_get_p0_t R) (bitio_Reader_get_p1 : bitio_Reader_get_p1_t R) (bitio_Reader_get_p2 : bitio_Reader_get_p2_t R) (k : Nat) (p561 : Oa) (H : Heap) (K : Value → Heap → Option R) : evF (bitio_Reader_get_Ct) (bitio_Reader_get_Jt k bitio_Reader_get_p0 bitio_Reader_get_p1 bitio_Reader_get_p2) bitio_Reader_get_f [.pointer p561] H K = bitio_Reader_get_b bitio_Reader_get_p0 k p561 H (fun n1494 n1495 H => K (.tuple ⟨[.int .i64 n1494,.int .i64 n1495]⟩) H) := by kernel_rfl
theorem bitio_Reader_get_cs (R : Type) (k : Nat) : ∀ args H K r,bitio_Reader_get_c R k args H K = some r → ∃ v H',Tri Try.prog 62 args H v H' ∧ K v H' = some r := by
  intro args H K r h
  unfold bitio_Reader_get_c bitio_Reader_get_ca at h
  split at h
  · exact evF_ok (C := bitio_Reader_get_C R k) (an := An) (t := bitio_Reader_get_at) (fn := Try.f62) (c := (Try.f62.body.getD .skip)) (ifn := bitio_Reader_get_f) (bitio_Reader_get_S R k) (bitio_Reader_get_J R k) Try.func62 (by kernel_rfl) (by kernel_rfl) (And.intro True.intro (And.intro (bitio_Reader_get_j0 k) (And.intro True.intro (And.intro True.intro True.intro)))) rfl (Eq.trans (bitio_Reader_get_e (bitio_Reader_get_p0 k) (bitio_Reader_get_p1 k) (bitio_Reader_get_p2 k) k _ H K) h)
  · cases h
/-! ### bitio_Reader_bits: function 61 -/
abbrev bitio_Reader_bits_l0_t (R : Type) : Type := (Int → Heap → Option R) → (Int → Int → Heap → Option R) → Nat → Oa → Int → Int → Int → Heap → Option R
def bitio_Reader_bits_l0_b {R : Type} (bitio_Reader_get : bitio_Reader_get_t R) (rec : Oa → Int → Int → Int → Heap → Option R) (KE0 : Int → Heap → Option R) (KR : Int → Int → Heap → Option R) (k : Nat) (p557 : Oa) (n558 : Int) (n559 : Int) (n560 : Int) (H : Heap) : Option R :=
bif decide (n560 < n559) then (bitio_Reader_get p557 H fun n561 n562 H563 =>
bif (n562 != 0) then (KR 0 n562 H563)
 else (hbin .or .i64 (IntKind.wrap .i64 (n558 * 2)) n561 fun n564 =>
rec p557 n564 n559 (IntKind.wrap .i64 (n560 + 1)) H563))
 else (KE0 n558 H)
def bitio_Reader_bits_l0 {R : Type} (k : Nat) (KE0 : Int → Heap → Option R) (KR : Int → Int → Heap → Option R) : Nat → Oa → Int → Int → Int → Heap → Option R
  | 0,_,_,_,_,_ => none
  | n + 1,p557,n558,n559,n560,H => bitio_Reader_bits_l0_b (bitio_Reader_get k) (bitio_Reader_bits_l0 k KE0 KR n) KE0 KR k p557 n558 n559 n560 H

abbrev bitio_Reader_bits_t (R : Type) : Type := Oa → Int → Heap → (Int → Int → Heap → Option R) → Option R

def bitio_Reader_bits_b {R : Type} (bitio_Reader_bits_l0 : bitio_Reader_bits_l0_t R) (k : Nat) (p555 : Oa) (n556 : Int) (H : Heap) (K : Int → Int → Heap → Option R) : Option R :=
bitio_Reader_bits_l0 (fun n568 H569 =>
K n568 0 H569) (fun n570 n571 H572 =>
K n570 n571 H572) k p555 0 n556 0 H

def bitio_Reader_bits {R : Type} (k : Nat) (p555 : Oa) (n556 : Int) (H : Heap) (K : Int → Int → Heap → Option R) : Option R := bitio_Reader_bits_b (bitio_Reader_bits_l0 k) k p555 n556 H K

def bitio_Reader_bits_Ct {R : Type} (bitio_Reader_get : bitio_Reader_get_t R) : Tab R := tcons 62 (bitio_Reader_get_ca bitio_Reader_get) <| fun _ _ _ _ => none
def bitio_Reader_bits_C (R : Type) (k : Nat) : Tab R := bitio_Reader_bits_Ct (bitio_Reader_get k)
theorem bitio_Reader_bits_S (R : Type) (k : Nat) : CSound Try.prog (bitio_Reader_bits_C R k) := csound_cons (bitio_Reader_get_cs R k) <| csound_nil
def bitio_Reader_bits_aa0 {R : Type} (f : bitio_Reader_bits_l0_t R) (n : Nat) (vals : List Value) (H : Heap) (K : Xit → Env → Heap → Option R) : Option R :=
  match vals with
  | [.pointer p557,.int .i64 n558,.int .i64 n559,.int .i64 n560] => f (fun n1496 H => K (.exit 0) [(6,.int .i64 n1496)] H) (fun n1497 n1498 H => K .ret [(4,.int .i64 n1497),(5,.int .i64 n1498)] H) n p557 n558 n559 n560 H
  | _ => none
def bitio_Reader_bits_a0 (R : Type) (k n : Nat) (vals : List Value) (H : Heap) (K : Xit → Env → Heap → Option R) : Option R := bitio_Reader_bits_aa0 (bitio_Reader_bits_l0 k) n vals H K
def bitio_Reader_bits_Jt {R : Type} (k : Nat) (bitio_Reader_bits_l0 : bitio_Reader_bits_l0_t R) : JTab R := tcons 0 (bitio_Reader_bits_aa0 bitio_Reader_bits_l0 k) <| fun _ _ _ _ => none
def bitio_Reader_bits_J (R : Type) (k : Nat) : JTab R := bitio_Reader_bits_Jt k (bitio_Reader_bits_l0 k)
def bitio_Reader_bits_at : AT := (.seq (.reg [0,1] []) (.seq (.reg [0,1,6] []) (.seq (.seq (.reg [0,6,9,10] []) (.node (.opq 0 [0,6,9,10] ⟨[],[(0,[6])],[4,5]⟩ (.node (.seq (.reg [0,6,9,10,11] []) (.seq (.cond .leaf .leaf) (.seq (.node (.seq (.reg [0,6,7,8,9,10] []) (.seq (.seq (.reg [0,6,7,8,9,10,18] []) (.cond (.seq (.reg [4,5] []) .leaf) .leaf)) (.reg [0,6,9,10] [])))) (.reg [0,6,9,10] [])))))))) (.seq (.reg [4,5] []) .leaf))))
def bitio_Reader_bits_i0 : IC := (.seq (.reg [⟨some 11,.cmp .lss (.t 10) (.t 9),none⟩] [0,6,9,10,11]) (.seq (.cond (.t 11) .skip (.exit 0)) (.seq (.block 1 (.seq (.reg [⟨some 13,.mov (.t 0),none⟩,
⟨some 14,.call 62 [(.t 13)] (.tup [(.sc (.int .i64)),(.sc (.int .i64))]),none⟩,
⟨some 12,.mov (.t 14),none⟩,
⟨some 15,.ext 0 (.t 12),none⟩,
⟨some 16,.ext 1 (.t 12),none⟩,
⟨some 7,.mov (.t 15),none⟩,
⟨some 8,.mov (.t 16),none⟩] [0,6,7,8,9,10]) (.seq (.seq (.reg [⟨some 17,.mov (.t 8),none⟩,
⟨some 18,.cmp .neq (.t 17) (.c (Go.Value.int Go.IntKind.i64 0)),none⟩] [0,6,7,8,9,10,18]) (.cond (.t 18) (.seq (.reg [⟨some 19,.mov (.t 8),none⟩,
⟨some 4,.mov (.c (Go.Value.int Go.IntKind.i64 0)),none⟩,
⟨some 5,.mov (.t 19),none⟩] [4,5]) .ret) .skip)) (.reg [⟨some 20,.mov (.t 6),none⟩,
⟨some 21,.bin .shl .i64 (.t 20) (.c (Go.Value.int Go.IntKind.u64 1)),none⟩,
⟨some 22,.mov (.t 7),none⟩,
⟨some 23,.bin .or .i64 (.t 21) (.t 22),none⟩,
⟨some 6,.mov (.t 23),none⟩] [0,6,9,10])))) (.reg [⟨some 24,.bin .add .i64 (.t 10) (.c (Go.Value.int Go.IntKind.i64 1)),none⟩,
⟨some 10,.mov (.t 24),none⟩] [0,6,9,10]))))
def bitio_Reader_bits_f : IFn := ⟨26,[.t 4,.t 5],(.seq (.reg [⟨some 4,.mov (.c (Go.Value.int Go.IntKind.i64 0)),none⟩,
⟨some 5,.mov (.c (Go.Value.int Go.IntKind.i64 0)),none⟩] [0,1]) (.seq (.reg [⟨some 6,.mov (.c (Go.Value.int Go.IntKind.i64 0)),none⟩] [0,1,6]) (.seq (.seq (.reg [⟨some 9,.mov (.t 1),none⟩,
⟨some 10,.mov (.c (Go.Value.int Go.IntKind.i64 0)),none⟩] [0,6,9,10]) (.block 0 (.opq 0 [0,6,9,10] (.loop bitio_Reader_bits_i0)))) (.seq (.reg [⟨some 25,.mov (.t 6),none⟩,
⟨some 4,.mov (.t 25),none⟩,
⟨some 5,.mov (.c (Go.Value.int Go.IntKind.i64 0)),none⟩] [4,5]) .ret))))⟩
theorem bitio_Reader_bits_e0 {R : Type} (bitio_Reader_get : bitio_Reader_get_t R) (bitio_Reader_bits_l0 : bitio_Reader_bits_l0_t R) (k n : Nat) (p557 : Oa) (n558 : Int) (n559 : Int) (n560 : Int) (H : Heap) (K : Xit → Env → Heap → Option R) : evJ (bitio_Reader_bits_Ct bitio_Reader_get) (bitio_Reader_bits_Jt k bitio_Reader_bits_l0) bitio_Reader_bits_i0 (List.zip [0,6,9,10] [.pointer p557,.int .i64 n558,.int .i64 n559,.int .i64 n560]) H (fun x e' H' => match x with | .normal => bitio_Reader_bits_aa0 bitio_Reader_bits_l0 n ((clean e' [0,6,9,10]).map (·.2)) H' K | x => K x (clean e' ((⟨[],[(0,[6])],[4,5]⟩ : Out).of x)) H') = bitio_Reader_bits_l0_b bitio_Reader_get (bitio_Reader_bits_l0 (fun n1496 H => K (.exit 0) [(6,.int .i64 n1496)] H) (fun n1497 n1498 H => K .ret [(4,.int .i64 n1497),(5,.int .i64 n1498)] H) n) (fun n1496 H => K (.exit 0) [(6,.int .i64 n1496)] H) (fun n1497 n1498 H => K .ret [(4,.int .i64 n1497),(5,.int .i64 n1498)] H) k p557 n558 n559 n560 H := by kernel_rfl
theorem bitio_Reader_bits_j0 {R : Type} (k : Nat) : JS Try.prog 26 (bitio_Reader_bits_a0 R k k) [0,6,9,10] ⟨[],[(0,[6])],[4,5]⟩ (.loop (sel [1,1,0,1,0,0] (Try.f61.body.getD .skip))) :=
  loop_ok (nt := 26) (c := (sel [1,1,0,1,0,0] (Try.f61.body.getD .skip))) (C := bitio_Reader_bits_C R k) (an := An) (t := (.seq (.reg [0,6,9,10,11] []) (.seq (.cond .leaf .leaf) (.seq (.node (.seq (.reg [0,6,7,8,9,10] []) (.seq (.seq (.reg [0,6,7,8,9,10,18] []) (.cond (.seq (.reg [4,5] []) .leaf) .leaf)) (.reg [0,6,9,10] [])))) (.reg [0,6,9,10] []))))) (ic := bitio_Reader_bits_i0) (bitio_Reader_bits_S R k) (bitio_Reader_bits_J R k) (by kernel_rfl) (And.intro True.intro (And.intro (And.intro True.intro True.intro) (And.intro (And.intro True.intro (And.intro (And.intro True.intro (And.intro (And.intro True.intro True.intro) True.intro)) True.intro)) True.intro))) (bitio_Reader_bits_a0 R k) (fun vals H K => by unfold bitio_Reader_bits_a0 bitio_Reader_bits_aa0; split <;> rfl)
    (fun n vals H K r h => by
      unfold bitio_Reader_bits_a0 bitio_Reader_bits_aa0 at h
      split at h <;> first | (cases h; done) | exact Eq.trans (bitio_Reader_bits_e0 (bitio_Reader_get k) (bitio_Reader_bits_l0 k) k n _ _ _ _ H K) h) k
def bitio_Reader_bits_ca {R : Type} (f : bitio_Reader_bits_t R) (args : List Value) (H : Heap) (K : Value → Heap → Option R) : Option R :=
  match args with
  | [.pointer p555,.int .i64 n556] => f p555 n556 H (fun n1499 n1500 H => K (.tuple ⟨[.int .i64 n1499,.int .i64 n1500]⟩) H)
  | _ => none
def bitio_Reader_bits_c (R : Type) (k : Nat) (args : List Value) (H : Heap) (K : Value → Heap → Option R) : Option R := bitio_Reader_bits_ca (bitio_Reader_bits k) args H K
theorem bitio_Reader_bits_e {R : Type} (bitio_Reader_get : bitio_Reader_get_t R) (bitio_Reader_bits_l0 : bitio_Reader_bits_l0_t R) (k : Nat) (p555 : Oa) (n556 : Int) (H : Heap) (K : Value → Heap → Option R) : evF (bitio_Reader_bits_Ct bitio_Reader_get) (bitio_Reader_bits_Jt k bitio_Reader_bits_l0) bitio_Reader_bits_f [.pointer p555,.int .i64 n556] H K = bitio_Reader_bits_b bitio_Reader_bits_l0 k p555 n556 H (fun n1499 n1500 H => K (.tuple ⟨[.int .i64 n1499,.int .i64 n1500]⟩) H) := by kernel_rfl
theorem bitio_Reader_bits_cs (R : Type) (k : Nat) : ∀ args H K r,bitio_Reader_bits_c R k args H K = some r → ∃ v H',Tri Try.prog 61 args H v H' ∧ K v H' = some r := by
  intro args H K r h
  unfold bitio_Reader_bits_c bitio_Reader_bits_ca at h
  split at h
  · exact evF_ok (C := bitio_Reader_bits_C R k) (an := An) (t := bitio_Reader_bits_at) (fn := Try.f61) (c := (Try.f61.body.getD .skip)) (ifn := bitio_Reader_bits_f) (bitio_Reader_bits_S R k) (bitio_Reader_bits_J R k) Try.func61 (by kernel_rfl) (by kernel_rfl) (And.intro True.intro (And.intro True.intro (And.intro (And.intro True.intro (bitio_Reader_bits_j0 k)) (And.intro True.intro True.intro)))) rfl (Eq.trans (bitio_Reader_bits_e (bitio_Reader_get k) (bitio_Reader_bits_l0 k) k _ _ H K) h)
  · cases h
/-! ### bitio_Reader_Bits_1: function 60 -/
abbrev bitio_Reader_Bits_1_t (R : Type) : Type := Oa → Oa → Heap → (Int → Int → Heap → Option R) → Option R

def bitio_Reader_Bits_1_b {R : Type} (bitio_Reader_bits : bitio_Reader_bits_t R) (k : Nat) (p551 : Oa) (p552 : Oa) (H : Heap) (K : Int → Int → Heap → Option R) : Option R :=
ldP H p551 fun p553 =>
ldI .i64 H p552 fun n554 =>
bitio_Reader_bits p553 n554 H fun n555 n556 H557 =>
K n555 n556 H557

def bitio_Reader_Bits_1 {R : Type} (k : Nat) (p551 : Oa) (p552 : Oa) (H : Heap) (K : Int → Int → Heap → Option R) : Option R := bitio_Reader_Bits_1_b (bitio_Reader_bits k) k p551 p552 H K

def bitio_Reader_Bits_1_Ct {R : Type} (bitio_Reader_bits : bitio_Reader_bits_t R) : Tab R := tcons 61 (bitio_Reader_bits_ca bitio_Reader_bits) <| fun _ _ _ _ => none
def bitio_Reader_Bits_1_C (R : Type) (k : Nat) : Tab R := bitio_Reader_Bits_1_Ct (bitio_Reader_bits k)
theorem bitio_Reader_Bits_1_S (R : Type) (k : Nat) : CSound Try.prog (bitio_Reader_Bits_1_C R k) := csound_cons (bitio_Reader_bits_cs R k) <| csound_nil
def bitio_Reader_Bits_1_Jt {R : Type} (k : Nat) : JTab R := fun _ _ _ _ => none
def bitio_Reader_Bits_1_J (R : Type) (k : Nat) : JTab R := bitio_Reader_Bits_1_Jt k
def bitio_Reader_Bits_1_at : AT := (.seq (.reg [0,1] []) (.seq (.reg [2,3] []) .leaf))
def bitio_Reader_Bits_1_f : IFn := ⟨9,[.t 2,.t 3],(.seq (.reg [⟨some 2,.mov (.c (Go.Value.int Go.IntKind.i64 0)),none⟩,
⟨some 3,.mov (.c (Go.Value.int Go.IntKind.i64 0)),none⟩] [0,1]) (.seq (.reg [⟨some 4,.ld (.sc .ptr) (.t 0),none⟩,
⟨some 5,.ld (.sc (.int .i64)) (.t 1),none⟩,
⟨some 6,.call 61 [(.t 4),(.t 5)] (.tup [(.sc (.int .i64)),(.sc (.int .i64))]),none⟩,
⟨some 7,.ext 0 (.t 6),none⟩,
⟨some 8,.ext 1 (.t 6),none⟩,
⟨some 2,.mov (.t 7),none⟩,
⟨some 3,.mov (.t 8),none⟩] [2,3]) .ret))⟩
def bitio_Reader_Bits_1_ca {R : Type} (f : bitio_Reader_Bits_1_t R) (args : List Value) (H : Heap) (K : Value → Heap → Option R) : Option R :=
  match args with
  | [.pointer p551,.pointer p552] => f p551 p552 H (fun n1501 n1502 H => K (.tuple ⟨[.int .i64 n1501,.int .i64 n1502]⟩) H)
  | _ => none
def bitio_Reader_Bits_1_c (R : Type) (k : Nat) (args : List Value) (H : Heap) (K : Value → Heap → Option R) : Option R := bitio_Reader_Bits_1_ca (bitio_Reader_Bits_1 k) args H K
theorem bitio_Reader_Bits_1_e {R : Type} (bitio_Reader_bits : bitio_Reader_bits_t R) (k : Nat) (p551 : Oa) (p552 : Oa) (H : Heap) (K : Value → Heap → Option R) : evF (bitio_Reader_Bits_1_Ct bitio_Reader_bits) (bitio_Reader_Bits_1_Jt k) bitio_Reader_Bits_1_f [.pointer p551,.pointer p552] H K = bitio_Reader_Bits_1_b bitio_Reader_bits k p551 p552 H (fun n1501 n1502 H => K (.tuple ⟨[.int .i64 n1501,.int .i64 n1502]⟩) H) := by kernel_rfl
theorem bitio_Reader_Bits_1_cs (R : Type) (k : Nat) : ∀ args H K r,bitio_Reader_Bits_1_c R k args H K = some r → ∃ v H',Tri Try.prog 60 args H v H' ∧ K v H' = some r := by
  intro args H K r h
  unfold bitio_Reader_Bits_1_c bitio_Reader_Bits_1_ca at h
  split at h
  · exact evF_ok (C := bitio_Reader_Bits_1_C R k) (an := An) (t := bitio_Reader_Bits_1_at) (fn := Try.f60) (c := (Try.f60.body.getD .skip)) (ifn := bitio_Reader_Bits_1_f) (bitio_Reader_Bits_1_S R k) (bitio_Reader_Bits_1_J R k) Try.func60 (by kernel_rfl) (by kernel_rfl) (And.intro True.intro (And.intro True.intro True.intro)) rfl (Eq.trans (bitio_Reader_Bits_1_e (bitio_Reader_bits k) k _ _ H K) h)
  · cases h
/-! ### bitio_Reader_whole_v60: function 59 -/
abbrev bitio_Reader_whole_v60_t (R : Type) : Type := Oa → Oa → Oa → Heap → (Int → Int → Heap → Option R) → Option R

def bitio_Reader_whole_v60_b {R : Type} (bitio_Reader_Bits_1 : bitio_Reader_Bits_1_t R) (k : Nat) (p542 : Oa) (p543 : Oa) (p544 : Oa) (H : Heap) (K : Int → Int → Heap → Option R) : Option R :=
hnil p542 fun p545 =>
hfad 2 p545 fun p546 =>
ldI .i64 H p546 fun n547 =>
hnil p542 fun p548 =>
hfad 3 p548 fun p549 =>
ldI .i64 H p549 fun n550 =>
bitio_Reader_Bits_1 p543 p544 H fun n551 n552 H553 =>
bif (n552 != 0) then (hnil p542 fun p554 =>
hfad 2 p554 fun p555 =>
hst1 H553 p555 (.int .i64 n547) fun H556 =>
hnil p542 fun p557 =>
hfad 3 p557 fun p558 =>
hst1 H556 p558 (.int .i64 n550) fun H559 =>
K 0 n552 H559)
 else (K n551 0 H553)

def bitio_Reader_whole_v60 {R : Type} (k : Nat) (p542 : Oa) (p543 : Oa) (p544 : Oa) (H : Heap) (K : Int → Int → Heap → Option R) : Option R := bitio_Reader_whole_v60_b (bitio_Reader_Bits_1 k) k p542 p543 p544 H K

def bitio_Reader_whole_v60_Ct {R : Type} (bitio_Reader_Bits_1 : bitio_Reader_Bits_1_t R) : Tab R := tcons 60 (bitio_Reader_Bits_1_ca bitio_Reader_Bits_1) <| fun _ _ _ _ => none
def bitio_Reader_whole_v60_C (R : Type) (k : Nat) : Tab R := bitio_Reader_whole_v60_Ct (bitio_Reader_Bits_1 k)
theorem bitio_Reader_whole_v60_S (R : Type) (k : Nat) : CSound Try.prog (bitio_Reader_whole_v60_C R k) := csound_cons (bitio_Reader_Bits_1_cs R k) <| csound_nil
def bitio_Reader_whole_v60_Jt {R : Type} (k : Nat) : JTab R := fun _ _ _ _ => none
def bitio_Reader_whole_v60_J (R : Type) (k : Nat) : JTab R := bitio_Reader_whole_v60_Jt k
def bitio_Reader_whole_v60_at : AT := (.seq (.reg [0,1] []) (.seq (.reg [0,1,6,7] [[],[0],[0,1],[0,1,2],[],[4],[4,5],[4,5,6],[0,1,2,3],[0,1,2,3,4,5,6,7,8]]) (.seq (.reg [0,6,7,8,9] []) (.seq (.seq (.reg [0,6,7,8,9,24] []) (.cond (.seq (.reg [9] []) (.seq (.reg [4,5] []) .leaf)) .leaf)) (.seq (.reg [4,5] []) .leaf)))))
def bitio_Reader_whole_v60_f : IFn := ⟨35,[.t 4,.t 5],(.seq (.reg [⟨some 4,.mov (.c (Go.Value.int Go.IntKind.i64 0)),none⟩,
⟨some 5,.mov (.c (Go.Value.int Go.IntKind.i64 0)),none⟩] [0,1]) (.seq (.reg [⟨some 10,.mov (.t 0),none⟩,
⟨some 11,.nilc (.t 10),none⟩,
⟨some 12,.fad 2 (.t 11),none⟩,
⟨some 13,.ld (.sc (.int .i64)) (.t 12),none⟩,
⟨some 14,.mov (.t 0),none⟩,
⟨some 15,.nilc (.t 14),none⟩,
⟨some 16,.fad 3 (.t 15),none⟩,
⟨some 17,.ld (.sc (.int .i64)) (.t 16),none⟩,
⟨some 6,.mov (.t 13),none⟩,
⟨some 7,.mov (.t 17),none⟩] [0,1,6,7]) (.seq (.reg [⟨some 19,.mov (.t 1),none⟩,
⟨some 20,.calv (.t 19) [] (.tup [(.sc (.int .i64)),(.sc (.int .i64))]),none⟩,
⟨some 18,.mov (.t 20),none⟩,
⟨some 21,.ext 0 (.t 18),none⟩,
⟨some 22,.ext 1 (.t 18),none⟩,
⟨some 8,.mov (.t 21),none⟩,
⟨some 9,.mov (.t 22),none⟩] [0,6,7,8,9]) (.seq (.seq (.reg [⟨some 23,.mov (.t 9),none⟩,
⟨some 24,.cmp .neq (.t 23) (.c (Go.Value.int Go.IntKind.i64 0)),none⟩] [0,6,7,8,9,24]) (.cond (.t 24) (.seq (.reg [⟨some 25,.mov (.t 0),none⟩,
⟨some 26,.mov (.t 0),none⟩,
⟨some 27,.mov (.t 6),none⟩,
⟨some 28,.mov (.t 7),none⟩,
⟨some 29,.nilc (.t 25),none⟩,
⟨some 30,.fad 2 (.t 29),none⟩,
⟨none,.st 1 (.t 30) (.t 27),none⟩,
⟨some 31,.nilc (.t 26),none⟩,
⟨some 32,.fad 3 (.t 31),none⟩,
⟨none,.st 1 (.t 32) (.t 28),none⟩] [9]) (.seq (.reg [⟨some 33,.mov (.t 9),none⟩,
⟨some 4,.mov (.c (Go.Value.int Go.IntKind.i64 0)),none⟩,
⟨some 5,.mov (.t 33),none⟩] [4,5]) .ret)) .skip)) (.seq (.reg [⟨some 34,.mov (.t 8),none⟩,
⟨some 4,.mov (.t 34),none⟩,
⟨some 5,.mov (.c (Go.Value.int Go.IntKind.i64 0)),none⟩] [4,5]) .ret)))))⟩
def bitio_Reader_whole_v60_ca {R : Type} (f : bitio_Reader_whole_v60_t R) (args : List Value) (H : Heap) (K : Value → Heap → Option R) : Option R :=
  match args with
  | [.pointer p542,.func (.func 60) ⟨[]⟩ ⟨[.pointer p543,.pointer p544]⟩] => f p542 p543 p544 H (fun n1503 n1504 H => K (.tuple ⟨[.int .i64 n1503,.int .i64 n1504]⟩) H)
  | _ => none
def bitio_Reader_whole_v60_c (R : Type) (k : Nat) (args : List Value) (H : Heap) (K : Value → Heap → Option R) : Option R := bitio_Reader_whole_v60_ca (bitio_Reader_whole_v60 k) args H K
theorem bitio_Reader_whole_v60_e {R : Type} (bitio_Reader_Bits_1 : bitio_Reader_Bits_1_t R) (k : Nat) (p542 : Oa) (p543 : Oa) (p544 : Oa) (H : Heap) (K : Value → Heap → Option R) : evF (bitio_Reader_whole_v60_Ct bitio_Reader_Bits_1) (bitio_Reader_whole_v60_Jt k) bitio_Reader_whole_v60_f [.pointer p542,.func (.func 60) ⟨[]⟩ ⟨[.pointer p543,.pointer p544]⟩] H K = bitio_Reader_whole_v60_b bitio_Reader_Bits_1 k p542 p543 p544 H (fun n1503 n1504 H => K (.tuple ⟨[.int .i64 n1503,.int .i64 n1504]⟩) H) := by kernel_rfl
theorem bitio_Reader_whole_v60_cs (R : Type) (k : Nat) : ∀ args H K r,bitio_Reader_whole_v60_c R k args H K = some r → ∃ v H',Tri Try.prog 59 args H v H' ∧ K v H' = some r := by
  intro args H K r h
  unfold bitio_Reader_whole_v60_c bitio_Reader_whole_v60_ca at h
  split at h
  · exact evF_ok (C := bitio_Reader_whole_v60_C R k) (an := An) (t := bitio_Reader_whole_v60_at) (fn := Try.f59) (c := (Try.f59.body.getD .skip)) (ifn := bitio_Reader_whole_v60_f) (bitio_Reader_whole_v60_S R k) (bitio_Reader_whole_v60_J R k) Try.func59 (by kernel_rfl) (by kernel_rfl) (And.intro True.intro (And.intro True.intro (And.intro True.intro (And.intro (And.intro True.intro (And.intro (And.intro True.intro (And.intro True.intro True.intro)) True.intro)) (And.intro True.intro True.intro))))) rfl (Eq.trans (bitio_Reader_whole_v60_e (bitio_Reader_Bits_1 k) k _ _ _ H K) h)
  · cases h
/-! ### bitio_Reader_Bits: function 52 -/
abbrev bitio_Reader_Bits_p0_t (R : Type) : Type := Oa → Oa → Heap → (Oa → Oa → Option R) → (Int → Int → Option R) → Option R
def bitio_Reader_Bits_p0_b {R : Type} (k : Nat) (p526 : Oa) (p527 : Oa) (H : Heap) (KN : Oa → Oa → Option R) (KR : Int → Int → Option R) : Option R :=
ldI .i64 H p527 fun n528 =>
bif decide (n528 < 0) then (KR 0 1)
 else (ldI .i64 H p527 fun n529 =>
bif decide (n529 > 32) then (KR 0 1)
 else (KN p526 p527))
def bitio_Reader_Bits_p0 {R : Type} (k : Nat) (p526 : Oa) (p527 : Oa) (H : Heap) (KN : Oa → Oa → Option R) (KR : Int → Int → Option R) : Option R := bitio_Reader_Bits_p0_b k p526 p527 H KN KR

abbrev bitio_Reader_Bits_t (R : Type) : Type := Oa → Int → Heap → (Int → Int → Heap → Option R) → Option R

def bitio_Reader_Bits_b {R : Type} (bitio_Reader_ok : bitio_Reader_ok_t R) (bitio_Reader_Bits_p0 : bitio_Reader_Bits_p0_t R) (bitio_Reader_whole_v60 : bitio_Reader_whole_v60_t R) (k : Nat) (p518 : Oa) (n519 : Int) (H : Heap) (K : Int → Int → Heap → Option R) : Option R :=
hal H [.pointer p518] fun p520 H521 =>
hal H521 [.int .i64 n519] fun p522 H523 =>
ldP H523 p520 fun p524 =>
bitio_Reader_ok p524 H523 fun t525 =>
bif (!t525) then (K 0 6 H523)
 else (bitio_Reader_Bits_p0 p520 p522 H523 (fun p534 p535 =>
ldP H523 p534 fun p536 =>
bitio_Reader_whole_v60 p536 p534 p535 H523 fun n537 n538 H539 =>
K n537 n538 H539) (fun n540 n541 =>
K n540 n541 H523))

def bitio_Reader_Bits {R : Type} (k : Nat) (p518 : Oa) (n519 : Int) (H : Heap) (K : Int → Int → Heap → Option R) : Option R := bitio_Reader_Bits_b bitio_Reader_ok (bitio_Reader_Bits_p0 k) (bitio_Reader_whole_v60 k) k p518 n519 H K

def bitio_Reader_Bits_Ct {R : Type} (bitio_Reader_ok : bitio_Reader_ok_t R) (bitio_Reader_whole_v60 : bitio_Reader_whole_v60_t R) : Tab R := tcons 58 (bitio_Reader_ok_ca bitio_Reader_ok) <| tcons 59 (bitio_Reader_whole_v60_ca bitio_Reader_whole_v60) <| fun _ _ _ _ => none
def bitio_Reader_Bits_C (R : Type) (k : Nat) : Tab R := bitio_Reader_Bits_Ct bitio_Reader_ok (bitio_Reader_whole_v60 k)
theorem bitio_Reader_Bits_S (R : Type) (k : Nat) : CSound Try.prog (bitio_Reader_Bits_C R k) := csound_cons (bitio_Reader_ok_cs R k) <| csound_cons (bitio_Reader_whole_v60_cs R k) <| csound_nil
def bitio_Reader_Bits_aa0 {R : Type} (f : bitio_Reader_Bits_p0_t R) (n : Nat) (vals : List Value) (H : Heap) (K : Xit → Env → Heap → Option R) : Option R :=
  match vals with
  | [.pointer p526,.pointer p527] => f p526 p527 H (fun p1505 p1506 => K .normal [(2,.pointer p1505),(3,.pointer p1506)] H) (fun n1507 n1508 => K .ret [(4,.int .i64 n1507),(5,.int .i64 n1508)] H)
  | _ => none
def bitio_Reader_Bits_a0 (R : Type) (k n : Nat) (vals : List Value) (H : Heap) (K : Xit → Env → Heap → Option R) : Option R := bitio_Reader_Bits_aa0 (bitio_Reader_Bits_p0 k) n vals H K
def bitio_Reader_Bits_Jt {R : Type} (k : Nat) (bitio_Reader_Bits_p0 : bitio_Reader_Bits_p0_t R) : JTab R := tcons 0 (bitio_Reader_Bits_aa0 bitio_Reader_Bits_p0 k) <| fun _ _ _ _ => none
def bitio_Reader_Bits_J (R : Type) (k : Nat) : JTab R := bitio_Reader_Bits_Jt k (bitio_Reader_Bits_p0 k)
def bitio_Reader_Bits_at : AT := (.seq (.reg [2,3] []) (.seq (.seq (.reg [2,3,8] []) (.cond (.seq (.reg [4,5] []) .leaf) .leaf)) (.seq (.opq 0 [2,3] ⟨[2,3],[],[4,5]⟩ (.seq (.reg [2,3,14] []) (.cond (.seq (.reg [4,5] []) .leaf) .leaf))) (.seq (.reg [4,5] []) .leaf))))
def bitio_Reader_Bits_i0 : IC := (.seq (.reg [⟨some 9,.ld (.sc (.int .i64)) (.t 3),none⟩,
⟨some 10,.cmp .lss (.t 9) (.c (Go.Value.int Go.IntKind.i64 0)),none⟩,
⟨some 11,.mov (.t 10),none⟩,
⟨some 12,.ld (.sc (.int .i64)) (.t 3),some (11,false)⟩,
⟨some 13,.cmp .gtr (.t 12) (.c (Go.Value.int Go.IntKind.i64 32)),some (11,false)⟩,
⟨some 14,.pick (.t 11) (.c (Go.Value.bool true)) (.t 13),none⟩] [2,3,14]) (.cond (.t 14) (.seq (.reg [⟨some 4,.mov (.c (Go.Value.int Go.IntKind.i64 0)),none⟩,
⟨some 5,.mov (.c (Go.Value.int Go.IntKind.i64 1)),none⟩] [4,5]) .ret) .skip))
def bitio_Reader_Bits_f : IFn := ⟨20,[.t 4,.t 5],(.seq (.reg [⟨some 2,.box (.t 0),none⟩,
⟨some 3,.box (.t 1),none⟩,
⟨some 4,.mov (.c (Go.Value.int Go.IntKind.i64 0)),none⟩,
⟨some 5,.mov (.c (Go.Value.int Go.IntKind.i64 0)),none⟩] [2,3]) (.seq (.seq (.reg [⟨some 6,.ld (.sc .ptr) (.t 2),none⟩,
⟨some 7,.call 58 [(.t 6)] (.one (.sc .bool)),none⟩,
⟨some 8,.lnot (.t 7),none⟩] [2,3,8]) (.cond (.t 8) (.seq (.reg [⟨some 4,.mov (.c (Go.Value.int Go.IntKind.i64 0)),none⟩,
⟨some 5,.mov (.c (Go.Value.int Go.IntKind.i64 6)),none⟩] [4,5]) .ret) .skip)) (.seq (.opq 0 [2,3] bitio_Reader_Bits_i0) (.seq (.reg [⟨some 15,.ld (.sc .ptr) (.t 2),none⟩,
⟨some 16,.mkf 60 [(.t 2),(.t 3)],none⟩,
⟨some 17,.call 59 [(.t 15),(.t 16)] (.tup [(.sc (.int .i64)),(.sc (.int .i64))]),none⟩,
⟨some 18,.ext 0 (.t 17),none⟩,
⟨some 19,.ext 1 (.t 17),none⟩,
⟨some 4,.mov (.t 18),none⟩,
⟨some 5,.mov (.t 19),none⟩] [4,5]) .ret))))⟩
theorem bitio_Reader_Bits_e0 {R : Type} (bitio_Reader_ok : bitio_Reader_ok_t R) (bitio_Reader_whole_v60 : bitio_Reader_whole_v60_t R) (bitio_Reader_Bits_p0 : bitio_Reader_Bits_p0_t R) (k : Nat) (p526 : Oa) (p527 : Oa) (H : Heap) (K : Xit → Env → Heap → Option R) : evJ (bitio_Reader_Bits_Ct bitio_Reader_ok bitio_Reader_whole_v60) (bitio_Reader_Bits_Jt k bitio_Reader_Bits_p0) bitio_Reader_Bits_i0 (List.zip [2,3] [.pointer p526,.pointer p527]) H (fun x e' H' => K x (clean e' ((⟨[2,3],[],[4,5]⟩ : Out).of x)) H') = bitio_Reader_Bits_p0_b k p526 p527 H (fun p1505 p1506 => K .normal [(2,.pointer p1505),(3,.pointer p1506)] H) (fun n1507 n1508 => K .ret [(4,.int .i64 n1507),(5,.int .i64 n1508)] H) := by kernel_rfl
theorem bitio_Reader_Bits_j0 {R : Type} (k : Nat) : JS Try.prog 20 (bitio_Reader_Bits_a0 R k k) [2,3] ⟨[2,3],[],[4,5]⟩ (sel [1,1,0] (Try.f52.body.getD .skip)) :=
  piece_ok (nt := 20) (c := (sel [1,1,0] (Try.f52.body.getD .skip))) (C := bitio_Reader_Bits_C R k) (an := An) (t := (.seq (.reg [2,3,14] []) (.cond (.seq (.reg [4,5] []) .leaf) .leaf))) (ic := bitio_Reader_Bits_i0) (bitio_Reader_Bits_S R k) (bitio_Reader_Bits_J R k) (by kernel_rfl) (And.intro True.intro (And.intro (And.intro True.intro True.intro) True.intro)) (bitio_Reader_Bits_a0 R k k)
    (fun vals H K r h => by
      unfold bitio_Reader_Bits_a0 bitio_Reader_Bits_aa0 at h
      split at h <;> first | (cases h; done) | exact Eq.trans (bitio_Reader_Bits_e0 bitio_Reader_ok (bitio_Reader_whole_v60 k) (bitio_Reader_Bits_p0 k) k _ _ H K) h)
def bitio_Reader_Bits_ca {R : Type} (f : bitio_Reader_Bits_t R) (args : List Value) (H : Heap) (K : Value → Heap → Option R) : Option R :=
  match args with
  | [.pointer p518,.int .i64 n519] => f p518 n519 H (fun n1509 n1510 H => K (.tuple ⟨[.int .i64 n1509,.int .i64 n1510]⟩) H)
  | _ => none
def bitio_Reader_Bits_c (R : Type) (k : Nat) (args : List Value) (H : Heap) (K : Value → Heap → Option R) : Option R := bitio_Reader_Bits_ca (bitio_Reader_Bits k) args H K
theorem bitio_Reader_Bits_e {R : Type} (bitio_Reader_ok : bitio_Reader_ok_t R) (bitio_Reader_whole_v60 : bitio_Reader_whole_v60_t R) (bitio_Reader_Bits_p0 : bitio_Reader_Bits_p0_t R) (k : Nat) (p518 : Oa) (n519 : Int) (H : Heap) (K : Value → Heap → Option R) : evF (bitio_Reader_Bits_Ct bitio_Reader_ok bitio_Reader_whole_v60) (bitio_Reader_Bits_Jt k bitio_Reader_Bits_p0) bitio_Reader_Bits_f [.pointer p518,.int .i64 n519] H K = bitio_Reader_Bits_b bitio_Reader_ok bitio_Reader_Bits_p0 bitio_Reader_whole_v60 k p518 n519 H (fun n1509 n1510 H => K (.tuple ⟨[.int .i64 n1509,.int .i64 n1510]⟩) H) := by kernel_rfl
theorem bitio_Reader_Bits_cs (R : Type) (k : Nat) : ∀ args H K r,bitio_Reader_Bits_c R k args H K = some r → ∃ v H',Tri Try.prog 52 args H v H' ∧ K v H' = some r := by
  intro args H K r h
  unfold bitio_Reader_Bits_c bitio_Reader_Bits_ca at h
  split at h
  · exact evF_ok (C := bitio_Reader_Bits_C R k) (an := An) (t := bitio_Reader_Bits_at) (fn := Try.f52) (c := (Try.f52.body.getD .skip)) (ifn := bitio_Reader_Bits_f) (bitio_Reader_Bits_S R k) (bitio_Reader_Bits_J R k) Try.func52 (by kernel_rfl) (by kernel_rfl) (And.intro True.intro (And.intro (And.intro True.intro (And.intro (And.intro True.intro True.intro) True.intro)) (And.intro (bitio_Reader_Bits_j0 k) (And.intro True.intro True.intro)))) rfl (Eq.trans (bitio_Reader_Bits_e bitio_Reader_ok (bitio_Reader_whole_v60 k) (bitio_Reader_Bits_p0 k) k _ _ H K) h)
  · cases h
/-! ### bitio_Reader_Get: function 54 -/
abbrev bitio_Reader_Get_t (R : Type) : Type := Oa → Heap → (Int → Int → Heap → Option R) → Option R

def bitio_Reader_Get_b {R : Type} (bitio_Reader_ok : bitio_Reader_ok_t R) (bitio_Reader_get : bitio_Reader_get_t R) (k : Nat) (p682 : Oa) (H : Heap) (K : Int → Int → Heap → Option R) : Option R :=
bitio_Reader_ok p682 H fun t683 =>
bif (!t683) then (K 0 6 H)
 else (bitio_Reader_get p682 H fun n684 n685 H686 =>
K n684 n685 H686)

def bitio_Reader_Get {R : Type} (k : Nat) (p682 : Oa) (H : Heap) (K : Int → Int → Heap → Option R) : Option R := bitio_Reader_Get_b bitio_Reader_ok (bitio_Reader_get k) k p682 H K

def bitio_Reader_Get_Ct {R : Type} (bitio_Reader_ok : bitio_Reader_ok_t R) (bitio_Reader_get : bitio_Reader_get_t R) : Tab R := tcons 58 (bitio_Reader_ok_ca bitio_Reader_ok) <| tcons 62 (bitio_Reader_get_ca bitio_Reader_get) <| fun _ _ _ _ => none
def bitio_Reader_Get_C (R : Type) (k : Nat) : Tab R := bitio_Reader_Get_Ct bitio_Reader_ok (bitio_Reader_get k)
theorem bitio_Reader_Get_S (R : Type) (k : Nat) : CSound Try.prog (bitio_Reader_Get_C R k) := csound_cons (bitio_Reader_ok_cs R k) <| csound_cons (bitio_Reader_get_cs R k) <| csound_nil
def bitio_Reader_Get_Jt {R : Type} (k : Nat) : JTab R := fun _ _ _ _ => none
def bitio_Reader_Get_J (R : Type) (k : Nat) : JTab R := bitio_Reader_Get_Jt k
def bitio_Reader_Get_at : AT := (.seq (.reg [0] []) (.seq (.seq (.reg [0,6] []) (.cond (.seq (.reg [2,3] []) .leaf) .leaf)) (.seq (.reg [2,3] []) .leaf)))
def bitio_Reader_Get_f : IFn := ⟨11,[.t 2,.t 3],(.seq (.reg [⟨some 2,.mov (.c (Go.Value.int Go.IntKind.i64 0)),none⟩,
⟨some 3,.mov (.c (Go.Value.int Go.IntKind.i64 0)),none⟩] [0]) (.seq (.seq (.reg [⟨some 4,.mov (.t 0),none⟩,
⟨some 5,.call 58 [(.t 4)] (.one (.sc .bool)),none⟩,
⟨some 6,.lnot (.t 5),none⟩] [0,6]) (.cond (.t 6) (.seq (.reg [⟨some 2,.mov (.c (Go.Value.int Go.IntKind.i64 0)),none⟩,
⟨some 3,.mov (.c (Go.Value.int Go.IntKind.i64 6)),none⟩] [2,3]) .ret) .skip)) (.seq (.reg [⟨some 7,.mov (.t 0),none⟩,
⟨some 8,.call 62 [(.t 7)] (.tup [(.sc (.int .i64)),(.sc (.int .i64))]),none⟩,
⟨some 9,.ext 0 (.t 8),none⟩,
⟨some 10,.ext 1 (.t 8),none⟩,
⟨some 2,.mov (.t 9),none⟩,
⟨some 3,.mov (.t 10),none⟩] [2,3]) .ret)))⟩
def bitio_Reader_Get_ca {R : Type} (f : bitio_Reader_Get_t R) (args : List Value) (H : Heap) (K : Value → Heap → Option R) : Option R :=
  match args with
  | [.pointer p682] => f p682 H (fun n1511 n1512 H => K (.tuple ⟨[.int .i64 n1511,.int .i64 n1512]⟩) H)
  | _ => none
def bitio_Reader_Get_c (R : Type) (k : Nat) (args : List Value) (H : Heap) (K : Value → Heap → Option R) : Option R := bitio_Reader_Get_ca (bitio_Reader_Get k) args H K
theorem bitio_Reader_Get_e {R : Type} (bitio_Reader_ok : bitio_Reader_ok_t R) (bitio_Reader_get : bitio_Reader_get_t R) (k : Nat) (p682 : Oa) (H : Heap) (K : Value → Heap → Option R) : evF (bitio_Reader_Get_Ct bitio_Reader_ok bitio_Reader_get) (bitio_Reader_Get_Jt k) bitio_Reader_Get_f [.pointer p682] H K = bitio_Reader_Get_b bitio_Reader_ok bitio_Reader_get k p682 H (fun n1511 n1512 H => K (.tuple ⟨[.int .i64 n1511,.int .i64 n1512]⟩) H) := by kernel_rfl
theorem bitio_Reader_Get_cs (R : Type) (k : Nat) : ∀ args H K r,bitio_Reader_Get_c R k args H K = some r → ∃ v H',Tri Try.prog 54 args H v H' ∧ K v H' = some r := by
  intro args H K r h
  unfold bitio_Reader_Get_c bitio_Reader_Get_ca at h
  split at h
  · exact evF_ok (C := bitio_Reader_Get_C R k) (an := An) (t := bitio_Reader_Get_at) (fn := Try.f54) (c := (Try.f54.body.getD .skip)) (ifn := bitio_Reader_Get_f) (bitio_Reader_Get_S R k) (bitio_Reader_Get_J R k) Try.func54 (by kernel_rfl) (by kernel_rfl) (And.intro True.intro (And.intro (And.intro True.intro (And.intro (And.intro True.intro True.intro) True.intro)) (And.intro True.intro True.intro))) rfl (Eq.trans (bitio_Reader_Get_e bitio_Reader_ok (bitio_Reader_get k) k _ H K) h)
  · cases h
end Go.Proofs.Ytblkejnciinaeaa.Sh
