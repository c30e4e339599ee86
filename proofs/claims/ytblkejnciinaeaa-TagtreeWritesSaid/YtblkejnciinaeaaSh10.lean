/- Lean functions that stand for Go's,over an explicit heap,and the proofs that they do (written by this claim's program shallow.py). -/
import Derived.Test.YtblkejnciinaeaaSh0
import Derived.Test.YtblkejnciinaeaaSh1
import Derived.Test.YtblkejnciinaeaaSh2
import Derived.Test.YtblkejnciinaeaaSh3
import Derived.Test.YtblkejnciinaeaaSh6
import Derived.Test.YtblkejnciinaeaaSh7
set_option maxRecDepth 100000
set_option linter.unusedVariables false
set_option linter.unusedSimpArgs false
namespace Go.Proofs.Ytblkejnciinaeaa.Sh
open Go.Proofs.Ytblkejnciinaeaa.FW
/-! ### R09_NewWriter: function 18 -/
abbrev R09_NewWriter_t (R : Type) : Type := Heap → (Oa → Heap → Option R) → Option R

def R09_NewWriter_b {R : Type} (k : Nat) (H : Heap) (K : Oa → Heap → Option R) : Option R :=
hal H [.bool true,.slice none 0 0] fun p122 H123 =>
K p122 H123

def R09_NewWriter {R : Type} (H : Heap) (K : Oa → Heap → Option R) : Option R := R09_NewWriter_b 0 H K

def R09_NewWriter_Ct {R : Type} : Tab R := fun _ _ _ _ => none
def R09_NewWriter_C (R : Type) (k : Nat) : Tab R := R09_NewWriter_Ct
theorem R09_NewWriter_S (R : Type) (k : Nat) : CSound Try.prog (R09_NewWriter_C R k) := csound_nil
def R09_NewWriter_Jt {R : Type} (k : Nat) : JTab R := fun _ _ _ _ => none
def R09_NewWriter_J (R : Type) (k : Nat) : JTab R := R09_NewWriter_Jt k
def R09_NewWriter_at : AT := (.seq (.reg [] []) (.seq (.reg [0] []) .leaf))
def R09_NewWriter_f : IFn := ⟨3,[.t 0],(.seq (.reg [⟨some 0,.mov (.c (Go.Value.pointer none)),none⟩] []) (.seq (.reg [⟨some 1,.bld [.bool false,.slice none 0 0] [(0,1,(.c (Go.Value.bool true)))],none⟩,
⟨some 2,.box (.t 1),none⟩,
⟨some 0,.mov (.t 2),none⟩] [0]) .ret))⟩
def R09_NewWriter_ca {R : Type} (f : R09_NewWriter_t R) (args : List Value) (H : Heap) (K : Value → Heap → Option R) : Option R :=
  match args with
  | [] => f H (fun p1613 H => K (.pointer p1613) H)
  | _ => none
def R09_NewWriter_c (R : Type) (k : Nat) (args : List Value) (H : Heap) (K : Value → Heap → Option R) : Option R := R09_NewWriter_ca R09_NewWriter args H K
theorem R09_NewWriter_e {R : Type} (k : Nat) (H : Heap) (K : Value → Heap → Option R) : evF (R09_NewWriter_Ct) (R09_NewWriter_Jt k) R09_NewWriter_f [] H K = R09_NewWriter_b k H (fun p1613 H => K (.pointer p1613) H) := by kernel_rfl
theorem R09_NewWriter_cs (R : Type) (k : Nat) : ∀ args H K r,R09_NewWriter_c R k args H K = some r → ∃ v H',Tri Try.prog 18 args H v H' ∧ K v H' = some r := by
  intro args H K r h
  unfold R09_NewWriter_c R09_NewWriter_ca at h
  split at h
  · exact evF_ok (C := R09_NewWriter_C R 0) (an := An) (t := R09_NewWriter_at) (fn := Try.f18) (c := (Try.f18.body.getD .skip)) (ifn := R09_NewWriter_f) (R09_NewWriter_S R 0) (R09_NewWriter_J R 0) Try.func18 (by kernel_rfl) (by kernel_rfl) (And.intro True.intro (And.intro True.intro True.intro)) rfl (Eq.trans (R09_NewWriter_e 0 H K) h)
  · cases h
/-! ### R09_Writer_Bits: function 47 -/
abbrev R09_Writer_Bits_p0_t (R : Type) : Type := Oa → Int → Int → Heap → (Oa → Int → Int → Option R) → (Int → Option R) → Option R
def R09_Writer_Bits_p0_b {R : Type} (k : Nat) (p257 : Oa) (n258 : Int) (n259 : Int) (H : Heap) (KN : Oa → Int → Int → Option R) (KR : Int → Option R) : Option R :=
bif p257.isNone then (KR 6)
 else (hnil p257 fun p260 =>
hfad 0 p260 fun p261 =>
ldB H p261 fun t262 =>
bif (!t262) then (KR 6)
 else (KN p257 n258 n259))
def R09_Writer_Bits_p0 {R : Type} (k : Nat) (p257 : Oa) (n258 : Int) (n259 : Int) (H : Heap) (KN : Oa → Int → Int → Option R) (KR : Int → Option R) : Option R := R09_Writer_Bits_p0_b k p257 n258 n259 H KN KR

abbrev R09_Writer_Bits_p1_t (R : Type) : Type := Oa → Int → Int → (Oa → Int → Int → Option R) → (Int → Option R) → Option R
def R09_Writer_Bits_p1_b {R : Type} (k : Nat) (p270 : Oa) (n271 : Int) (n272 : Int) (KN : Oa → Int → Int → Option R) (KR : Int → Option R) : Option R :=
bif decide (n272 < 0) then (KR 1)
 else (bif decide (n272 > 32) then (KR 1)
 else (bif decide (n271 < 0) then (KR 1)
 else (hbin .shl .i64 1 (IntKind.wrap .u64 n272) fun n273 =>
bif decide (n271 ≥ n273) then (KR 1)
 else (KN p270 n271 n272))))
def R09_Writer_Bits_p1 {R : Type} (k : Nat) (p270 : Oa) (n271 : Int) (n272 : Int) (KN : Oa → Int → Int → Option R) (KR : Int → Option R) : Option R := R09_Writer_Bits_p1_b k p270 n271 n272 KN KR

abbrev R09_Writer_Bits_l2_t (R : Type) : Type := (Heap → Option R) → Nat → Oa → Int → Int → Heap → Option R
def R09_Writer_Bits_l2_b {R : Type} (rec : Oa → Int → Int → Heap → Option R) (KE0 : Heap → Option R) (k : Nat) (p281 : Oa) (n282 : Int) (n283 : Int) (H : Heap) : Option R :=
bif decide (n283 ≥ 0) then (hnil p281 fun p284 =>
hfad 1 p284 fun p285 =>
ldL H p285 fun q286 l287 c288 =>
hbin .shr .i64 n282 (IntKind.wrap .u64 n283) fun n289 =>
hbin .and .i64 n289 1 fun n290 =>
hal H [.int .i64 n290] fun p291 H292 =>
happS 1 8 H292 q286 l287 c288 p291 1 fun q293 l294 c295 H296 =>
hnil p281 fun p297 =>
hfad 1 p297 fun p298 =>
hst1 H296 p298 (.slice q293 l294 c295) fun H299 =>
rec p281 n282 (IntKind.wrap .i64 (n283 - 1)) H299)
 else (KE0 H)
def R09_Writer_Bits_l2 {R : Type} (k : Nat) (KE0 : Heap → Option R) : Nat → Oa → Int → Int → Heap → Option R
  | 0,_,_,_,_ => none
  | n + 1,p281,n282,n283,H => R09_Writer_Bits_l2_b (R09_Writer_Bits_l2 k KE0 n) KE0 k p281 n282 n283 H

abbrev R09_Writer_Bits_t (R : Type) : Type := Oa → Int → Int → Heap → (Int → Heap → Option R) → Option R

def R09_Writer_Bits_b {R : Type} (R09_Writer_Bits_p0 : R09_Writer_Bits_p0_t R) (R09_Writer_Bits_p1 : R09_Writer_Bits_p1_t R) (R09_Writer_Bits_l2 : R09_Writer_Bits_l2_t R) (k : Nat) (p254 : Oa) (n255 : Int) (n256 : Int) (H : Heap) (K : Int → Heap → Option R) : Option R :=
R09_Writer_Bits_p0 p254 n255 n256 H (fun p267 n268 n269 =>
R09_Writer_Bits_p1 p267 n268 n269 (fun p278 n279 n280 =>
R09_Writer_Bits_l2 (fun H300 =>
K 0 H300) k p278 n279 (IntKind.wrap .i64 (n280 - 1)) H) (fun n301 =>
K n301 H)) (fun n302 =>
K n302 H)

def R09_Writer_Bits {R : Type} (k : Nat) (p254 : Oa) (n255 : Int) (n256 : Int) (H : Heap) (K : Int → Heap → Option R) : Option R := R09_Writer_Bits_b (R09_Writer_Bits_p0 k) (R09_Writer_Bits_p1 k) (R09_Writer_Bits_l2 k) k p254 n255 n256 H K

def R09_Writer_Bits_Ct {R : Type} : Tab R := fun _ _ _ _ => none
def R09_Writer_Bits_C (R : Type) (k : Nat) : Tab R := R09_Writer_Bits_Ct
theorem R09_Writer_Bits_S (R : Type) (k : Nat) : CSound Try.prog (R09_Writer_Bits_C R k) := csound_nil
def R09_Writer_Bits_aa0 {R : Type} (f : R09_Writer_Bits_p0_t R) (n : Nat) (vals : List Value) (H : Heap) (K : Xit → Env → Heap → Option R) : Option R :=
  match vals with
  | [.pointer p257,.int .i64 n258,.int .i64 n259] => f p257 n258 n259 H (fun p1614 n1615 n1616 => K .normal [(0,.pointer p1614),(1,.int .i64 n1615),(2,.int .i64 n1616)] H) (fun n1617 => K .ret [(6,.int .i64 n1617)] H)
  | _ => none
def R09_Writer_Bits_a0 (R : Type) (k n : Nat) (vals : List Value) (H : Heap) (K : Xit → Env → Heap → Option R) : Option R := R09_Writer_Bits_aa0 (R09_Writer_Bits_p0 k) n vals H K
def R09_Writer_Bits_aa1 {R : Type} (f : R09_Writer_Bits_p1_t R) (n : Nat) (vals : List Value) (H : Heap) (K : Xit → Env → Heap → Option R) : Option R :=
  match vals with
  | [.pointer p270,.int .i64 n271,.int .i64 n272] => f p270 n271 n272 (fun p1618 n1619 n1620 => K .normal [(0,.pointer p1618),(1,.int .i64 n1619),(2,.int .i64 n1620)] H) (fun n1621 => K .ret [(6,.int .i64 n1621)] H)
  | _ => none
def R09_Writer_Bits_a1 (R : Type) (k n : Nat) (vals : List Value) (H : Heap) (K : Xit → Env → Heap → Option R) : Option R := R09_Writer_Bits_aa1 (R09_Writer_Bits_p1 k) n vals H K
def R09_Writer_Bits_aa2 {R : Type} (f : R09_Writer_Bits_l2_t R) (n : Nat) (vals : List Value) (H : Heap) (K : Xit → Env → Heap → Option R) : Option R :=
  match vals with
  | [.pointer p281,.int .i64 n282,.int .i64 n283] => f (fun H => K (.exit 0) [] H) n p281 n282 n283 H
  | _ => none
def R09_Writer_Bits_a2 (R : Type) (k n : Nat) (vals : List Value) (H : Heap) (K : Xit → Env → Heap → Option R) : Option R := R09_Writer_Bits_aa2 (R09_Writer_Bits_l2 k) n vals H K
def R09_Writer_Bits_Jt {R : Type} (k : Nat) (R09_Writer_Bits_p0 : R09_Writer_Bits_p0_t R) (R09_Writer_Bits_p1 : R09_Writer_Bits_p1_t R) (R09_Writer_Bits_l2 : R09_Writer_Bits_l2_t R) : JTab R := tcons 0 (R09_Writer_Bits_aa0 R09_Writer_Bits_p0 k) <| tcons 1 (R09_Writer_Bits_aa1 R09_Writer_Bits_p1 k) <| tcons 2 (R09_Writer_Bits_aa2 R09_Writer_Bits_l2 k) <| fun _ _ _ _ => none
def R09_Writer_Bits_J (R : Type) (k : Nat) : JTab R := R09_Writer_Bits_Jt k (R09_Writer_Bits_p0 k) (R09_Writer_Bits_p1 k) (R09_Writer_Bits_l2 k)
def R09_Writer_Bits_at : AT := (.seq (.reg [0,1,2] []) (.seq (.opq 0 [0,1,2] ⟨[0,1,2],[],[6]⟩ (.seq (.reg [0,1,2,16] []) (.cond (.seq (.reg [6] []) .leaf) .leaf))) (.seq (.opq 1 [0,1,2] ⟨[0,1,2],[],[6]⟩ (.seq (.reg [0,1,2,33] []) (.cond (.seq (.reg [6] []) .leaf) .leaf))) (.seq (.seq (.reg [0,1,7] []) (.node (.opq 2 [0,1,7] ⟨[],[(0,[])],[]⟩ (.node (.seq (.seq (.reg [0,1,7,37] []) (.cond .leaf .leaf)) (.seq (.node (.reg [0,1,7] [])) (.reg [0,1,7] []))))))) (.seq (.reg [6] []) .leaf)))))
def R09_Writer_Bits_i2 : IC := (.seq (.seq (.reg [⟨some 36,.mov (.t 7),none⟩,
⟨some 37,.cmp .geq (.t 36) (.c (Go.Value.int Go.IntKind.i64 0)),none⟩] [0,1,7,37]) (.cond (.t 37) .skip (.exit 0))) (.seq (.block 1 (.reg [⟨some 40,.mov (.t 0),none⟩,
⟨some 41,.mov (.t 0),none⟩,
⟨some 42,.nilc (.t 41),none⟩,
⟨some 43,.fad 1 (.t 42),none⟩,
⟨some 44,.ld (.sc .slc) (.t 43),none⟩,
⟨some 45,.mov (.t 1),none⟩,
⟨some 46,.mov (.t 7),none⟩,
⟨some 47,.cnv .u64 (.t 46),none⟩,
⟨some 48,.bin .shr .i64 (.t 45) (.t 47),none⟩,
⟨some 49,.bin .and .i64 (.t 48) (.c (Go.Value.int Go.IntKind.i64 1)),none⟩,
⟨some 50,.bls 1 [.int .i64 0] [(0,1,(.t 49))],none⟩,
⟨some 51,.app [.int .i64 0] 8 (.t 44) (.t 50),none⟩,
⟨some 52,.nilc (.t 40),none⟩,
⟨some 53,.fad 1 (.t 52),none⟩,
⟨none,.st 1 (.t 53) (.t 51),none⟩] [0,1,7])) (.reg [⟨some 38,.mov (.t 7),none⟩,
⟨some 39,.bin .sub .i64 (.t 38) (.c (Go.Value.int Go.IntKind.i64 1)),none⟩,
⟨some 7,.mov (.t 39),none⟩] [0,1,7])))
def R09_Writer_Bits_i1 : IC := (.seq (.reg [⟨some 17,.mov (.t 2),none⟩,
⟨some 18,.cmp .lss (.t 17) (.c (Go.Value.int Go.IntKind.i64 0)),none⟩,
⟨some 19,.mov (.t 18),none⟩,
⟨some 20,.mov (.t 2),some (19,false)⟩,
⟨some 21,.cmp .gtr (.t 20) (.c (Go.Value.int Go.IntKind.i64 32)),some (19,false)⟩,
⟨some 22,.pick (.t 19) (.c (Go.Value.bool true)) (.t 21),none⟩,
⟨some 23,.mov (.t 22),none⟩,
⟨some 24,.mov (.t 1),some (23,false)⟩,
⟨some 25,.cmp .lss (.t 24) (.c (Go.Value.int Go.IntKind.i64 0)),some (23,false)⟩,
⟨some 26,.pick (.t 23) (.c (Go.Value.bool true)) (.t 25),none⟩,
⟨some 27,.mov (.t 26),none⟩,
⟨some 28,.mov (.t 1),some (27,false)⟩,
⟨some 29,.mov (.t 2),some (27,false)⟩,
⟨some 30,.cnv .u64 (.t 29),some (27,false)⟩,
⟨some 31,.bin .shl .i64 (.c (Go.Value.int Go.IntKind.i64 1)) (.t 30),some (27,false)⟩,
⟨some 32,.cmp .geq (.t 28) (.t 31),some (27,false)⟩,
⟨some 33,.pick (.t 27) (.c (Go.Value.bool true)) (.t 32),none⟩] [0,1,2,33]) (.cond (.t 33) (.seq (.reg [⟨some 6,.mov (.c (Go.Value.int Go.IntKind.i64 1)),none⟩] [6]) .ret) .skip))
def R09_Writer_Bits_i0 : IC := (.seq (.reg [⟨some 8,.mov (.t 0),none⟩,
⟨some 9,.eqnil (.t 8) false 0,none⟩,
⟨some 10,.mov (.t 9),none⟩,
⟨some 11,.mov (.t 0),some (10,false)⟩,
⟨some 12,.nilc (.t 11),some (10,false)⟩,
⟨some 13,.fad 0 (.t 12),some (10,false)⟩,
⟨some 14,.ld (.sc .bool) (.t 13),some (10,false)⟩,
⟨some 15,.lnot (.t 14),some (10,false)⟩,
⟨some 16,.pick (.t 10) (.c (Go.Value.bool true)) (.t 15),none⟩] [0,1,2,16]) (.cond (.t 16) (.seq (.reg [⟨some 6,.mov (.c (Go.Value.int Go.IntKind.i64 6)),none⟩] [6]) .ret) .skip))
def R09_Writer_Bits_f : IFn := ⟨54,[.t 6],(.seq (.reg [⟨some 6,.mov (.c (Go.Value.int Go.IntKind.i64 0)),none⟩] [0,1,2]) (.seq (.opq 0 [0,1,2] R09_Writer_Bits_i0) (.seq (.opq 1 [0,1,2] R09_Writer_Bits_i1) (.seq (.seq (.reg [⟨some 34,.mov (.t 2),none⟩,
⟨some 35,.bin .sub .i64 (.t 34) (.c (Go.Value.int Go.IntKind.i64 1)),none⟩,
⟨some 7,.mov (.t 35),none⟩] [0,1,7]) (.block 0 (.opq 2 [0,1,7] (.loop R09_Writer_Bits_i2)))) (.seq (.reg [⟨some 6,.mov (.c (Go.Value.int Go.IntKind.i64 0)),none⟩] [6]) .ret)))))⟩
theorem R09_Writer_Bits_e2 {R : Type} (R09_Writer_Bits_p0 : R09_Writer_Bits_p0_t R) (R09_Writer_Bits_p1 : R09_Writer_Bits_p1_t R) (R09_Writer_Bits_l2 : R09_Writer_Bits_l2_t R) (k n : Nat) (p281 : Oa) (n282 : Int) (n283 : Int) (H : Heap) (K : Xit → Env → Heap → Option R) : evJ (R09_Writer_Bits_Ct) (R09_Writer_Bits_Jt k R09_Writer_Bits_p0 R09_Writer_Bits_p1 R09_Writer_Bits_l2) R09_Writer_Bits_i2 (List.zip [0,1,7] [.pointer p281,.int .i64 n282,.int .i64 n283]) H (fun x e' H' => match x with | .normal => R09_Writer_Bits_aa2 R09_Writer_Bits_l2 n ((clean e' [0,1,7]).map (·.2)) H' K | x => K x (clean e' ((⟨[],[(0,[])],[]⟩ : Out).of x)) H') = R09_Writer_Bits_l2_b (R09_Writer_Bits_l2 (fun H => K (.exit 0) [] H) n) (fun H => K (.exit 0) [] H) k p281 n282 n283 H := by kernel_rfl
theorem R09_Writer_Bits_j2 {R : Type} (k : Nat) : JS Try.prog 54 (R09_Writer_Bits_a2 R k k) [0,1,7] ⟨[],[(0,[])],[]⟩ (.loop (sel [1,1,1,0,1,0,0] (Try.f47.body.getD .skip))) :=
  loop_ok (nt := 54) (c := (sel [1,1,1,0,1,0,0] (Try.f47.body.getD .skip))) (C := R09_Writer_Bits_C R k) (an := An) (t := (.seq (.seq (.reg [0,1,7,37] []) (.cond .leaf .leaf)) (.seq (.node (.reg [0,1,7] [])) (.reg [0,1,7] [])))) (ic := R09_Writer_Bits_i2) (R09_Writer_Bits_S R k) (R09_Writer_Bits_J R k) (by kernel_rfl) (And.intro (And.intro True.intro (And.intro True.intro True.intro)) (And.intro True.intro True.intro)) (R09_Writer_Bits_a2 R k) (fun vals H K => by unfold R09_Writer_Bits_a2 R09_Writer_Bits_aa2; split <;> rfl)
    (fun n vals H K r h => by
      unfold R09_Writer_Bits_a2 R09_Writer_Bits_aa2 at h
      split at h <;> first | (cases h; done) | exact Eq.trans (R09_Writer_Bits_e2 (R09_Writer_Bits_p0 k) (R09_Writer_Bits_p1 k) (R09_Writer_Bits_l2 k) k n _ _ _ H K) h) k
theorem R09_Writer_Bits_e1 {R : Type} (R09_Writer_Bits_p0 : R09_Writer_Bits_p0_t R) (R09_Writer_Bits_p1 : R09_Writer_Bits_p1_t R) (R09_Writer_Bits_l2 : R09_Writer_Bits_l2_t R) (k : Nat) (p270 : Oa) (n271 : Int) (n272 : Int) (H : Heap) (K : Xit → Env → Heap → Option R) : evJ (R09_Writer_Bits_Ct) (R09_Writer_Bits_Jt k R09_Writer_Bits_p0 R09_Writer_Bits_p1 R09_Writer_Bits_l2) R09_Writer_Bits_i1 (List.zip [0,1,2] [.pointer p270,.int .i64 n271,.int .i64 n272]) H (fun x e' H' => K x (clean e' ((⟨[0,1,2],[],[6]⟩ : Out).of x)) H') = R09_Writer_Bits_p1_b k p270 n271 n272 (fun p1618 n1619 n1620 => K .normal [(0,.pointer p1618),(1,.int .i64 n1619),(2,.int .i64 n1620)] H) (fun n1621 => K .ret [(6,.int .i64 n1621)] H) := by kernel_rfl
theorem R09_Writer_Bits_j1 {R : Type} (k : Nat) : JS Try.prog 54 (R09_Writer_Bits_a1 R k k) [0,1,2] ⟨[0,1,2],[],[6]⟩ (sel [1,1,0] (Try.f47.body.getD .skip)) :=
  piece_ok (nt := 54) (c := (sel [1,1,0] (Try.f47.body.getD .skip))) (C := R09_Writer_Bits_C R k) (an := An) (t := (.seq (.reg [0,1,2,33] []) (.cond (.seq (.reg [6] []) .leaf) .leaf))) (ic := R09_Writer_Bits_i1) (R09_Writer_Bits_S R k) (R09_Writer_Bits_J R k) (by kernel_rfl) (And.intro True.intro (And.intro (And.intro True.intro True.intro) True.intro)) (R09_Writer_Bits_a1 R k k)
    (fun vals H K r h => by
      unfold R09_Writer_Bits_a1 R09_Writer_Bits_aa1 at h
      split at h <;> first | (cases h; done) | exact Eq.trans (R09_Writer_Bits_e1 (R09_Writer_Bits_p0 k) (R09_Writer_Bits_p1 k) (R09_Writer_Bits_l2 k) k _ _ _ H K) h)
theorem R09_Writer_Bits_e0 {R : Type} (R09_Writer_Bits_p0 : R09_Writer_Bits_p0_t R) (R09_Writer_Bits_p1 : R09_Writer_Bits_p1_t R) (R09_Writer_Bits_l2 : R09_Writer_Bits_l2_t R) (k : Nat) (p257 : Oa) (n258 : Int) (n259 : Int) (H : Heap) (K : Xit → Env → Heap → Option R) : evJ (R09_Writer_Bits_Ct) (R09_Writer_Bits_Jt k R09_Writer_Bits_p0 R09_Writer_Bits_p1 R09_Writer_Bits_l2) R09_Writer_Bits_i0 (List.zip [0,1,2] [.pointer p257,.int .i64 n258,.int .i64 n259]) H (fun x e' H' => K x (clean e' ((⟨[0,1,2],[],[6]⟩ : Out).of x)) H') = R09_Writer_Bits_p0_b k p257 n258 n259 H (fun p1614 n1615 n1616 => K .normal [(0,.pointer p1614),(1,.int .i64 n1615),(2,.int .i64 n1616)] H) (fun n1617 => K .ret [(6,.int .i64 n1617)] H) := by kernel_rfl
theorem R09_Writer_Bits_j0 {R : Type} (k : Nat) : JS Try.prog 54 (R09_Writer_Bits_a0 R k k) [0,1,2] ⟨[0,1,2],[],[6]⟩ (sel [1,0] (Try.f47.body.getD .skip)) :=
  piece_ok (nt := 54) (c := (sel [1,0] (Try.f47.body.getD .skip))) (C := R09_Writer_Bits_C R k) (an := An) (t := (.seq (.reg [0,1,2,16] []) (.cond (.seq (.reg [6] []) .leaf) .leaf))) (ic := R09_Writer_Bits_i0) (R09_Writer_Bits_S R k) (R09_Writer_Bits_J R k) (by kernel_rfl) (And.intro True.intro (And.intro (And.intro True.intro True.intro) True.intro)) (R09_Writer_Bits_a0 R k k)
    (fun vals H K r h => by
      unfold R09_Writer_Bits_a0 R09_Writer_Bits_aa0 at h
      split at h <;> first | (cases h; done) | exact Eq.trans (R09_Writer_Bits_e0 (R09_Writer_Bits_p0 k) (R09_Writer_Bits_p1 k) (R09_Writer_Bits_l2 k) k _ _ _ H K) h)
def R09_Writer_Bits_ca {R : Type} (f : R09_Writer_Bits_t R) (args : List Value) (H : Heap) (K : Value → Heap → Option R) : Option R :=
  match args with
  | [.pointer p254,.int .i64 n255,.int .i64 n256] => f p254 n255 n256 H (fun n1622 H => K (.int .i64 n1622) H)
  | _ => none
def R09_Writer_Bits_c (R : Type) (k : Nat) (args : List Value) (H : Heap) (K : Value → Heap → Option R) : Option R := R09_Writer_Bits_ca (R09_Writer_Bits k) args H K
theorem R09_Writer_Bits_e {R : Type} (R09_Writer_Bits_p0 : R09_Writer_Bits_p0_t R) (R09_Writer_Bits_p1 : R09_Writer_Bits_p1_t R) (R09_Writer_Bits_l2 : R09_Writer_Bits_l2_t R) (k : Nat) (p254 : Oa) (n255 : Int) (n256 : Int) (H : Heap) (K : Value → Heap → Option R) : evF (R09_Writer_Bits_Ct) (R09_Writer_Bits_Jt k R09_Writer_Bits_p0 R09_Writer_Bits_p1 R09_Writer_Bits_l2) R09_Writer_Bits_f [.pointer p254,.int .i64 n255,.int .i64 n256] H K = R09_Writer_Bits_b R09_Writer_Bits_p0 R09_Writer_Bits_p1 R09_Writer_Bits_l2 k p254 n255 n256 H (fun n1622 H => K (.int .i64 n1622) H) := by kernel_rfl
theorem R09_Writer_Bits_cs (R : Type) (k : Nat) : ∀ args H K r,R09_Writer_Bits_c R k args H K = some r → ∃ v H',Tri Try.prog 47 args H v H' ∧ K v H' = some r := by
  intro args H K r h
  unfold R09_Writer_Bits_c R09_Writer_Bits_ca at h
  split at h
  · exact evF_ok (C := R09_Writer_Bits_C R k) (an := An) (t := R09_Writer_Bits_at) (fn := Try.f47) (c := (Try.f47.body.getD .skip)) (ifn := R09_Writer_Bits_f) (R09_Writer_Bits_S R k) (R09_Writer_Bits_J R k) Try.func47 (by kernel_rfl) (by kernel_rfl) (And.intro True.intro (And.intro (R09_Writer_Bits_j0 k) (And.intro (R09_Writer_Bits_j1 k) (And.intro (And.intro True.intro (R09_Writer_Bits_j2 k)) (And.intro True.intro True.intro))))) rfl (Eq.trans (R09_Writer_Bits_e (R09_Writer_Bits_p0 k) (R09_Writer_Bits_p1 k) (R09_Writer_Bits_l2 k) k _ _ _ H K) h)
  · cases h
/-! ### R10_Tree_minima: function 48 -/
abbrev R10_Tree_minima_l1_t (R : Type) : Type := (Oa → Int → Int → Int → Int → Int → Int → Heap → Option R) → Nat → Oa → Int → Int → Int → Int → Int → Int → Int → Heap → Option R
def R10_Tree_minima_l1_b {R : Type} (rec : Oa → Int → Int → Int → Int → Int → Int → Int → Heap → Option R) (KE2 : Oa → Int → Int → Int → Int → Int → Int → Heap → Option R) (k : Nat) (p307 : Oa) (n308 : Int) (n309 : Int) (n310 : Int) (n311 : Int) (n312 : Int) (n313 : Int) (n314 : Int) (H : Heap) : Option R :=
bif decide (n314 < (IntKind.wrap .i64 (n312 * n313))) then (hnil p307 fun p315 =>
hfad 3 p315 fun p316 =>
ldL H p316 fun q317 l318 c319 =>
hidx q317 l318 (IntKind.wrap .i64 (n311 + n314)) 3 fun p320 =>
hfad 0 p320 fun p321 =>
hst1 H p321 (.int .i64 65536) fun H322 =>
rec p307 n308 n309 n310 n311 n312 n313 (IntKind.wrap .i64 (n314 + 1)) H322)
 else (KE2 p307 n308 n309 n310 n311 n312 n313 H)
def R10_Tree_minima_l1 {R : Type} (k : Nat) (KE2 : Oa → Int → Int → Int → Int → Int → Int → Heap → Option R) : Nat → Oa → Int → Int → Int → Int → Int → Int → Int → Heap → Option R
  | 0,_,_,_,_,_,_,_,_,_ => none
  | n + 1,p307,n308,n309,n310,n311,n312,n313,n314,H => R10_Tree_minima_l1_b (R10_Tree_minima_l1 k KE2 n) KE2 k p307 n308 n309 n310 n311 n312 n313 n314 H

abbrev R10_Tree_minima_l3_t (R : Type) : Type := (Oa → Int → Int → Int → Int → Int → Int → Int → Heap → Option R) → Nat → Oa → Int → Int → Int → Int → Int → Int → Int → Int → Heap → Option R
def R10_Tree_minima_l3_b {R : Type} (rec : Oa → Int → Int → Int → Int → Int → Int → Int → Int → Heap → Option R) (KE6 : Oa → Int → Int → Int → Int → Int → Int → Int → Heap → Option R) (k : Nat) (p346 : Oa) (n347 : Int) (n348 : Int) (n349 : Int) (n350 : Int) (n351 : Int) (n352 : Int) (n353 : Int) (n354 : Int) (H : Heap) : Option R :=
bif decide (n354 < n347) then (hnil p346 fun p355 =>
hfad 3 p355 fun p356 =>
ldL H p356 fun q357 l358 c359 =>
hnil p346 fun p360 =>
hfad 3 p360 fun p361 =>
ldL H p361 fun q362 l363 c364 =>
hidx q362 l363 (IntKind.wrap .i64 ((IntKind.wrap .i64 (n350 + (IntKind.wrap .i64 ((IntKind.wrap .i64 (Int.tdiv n353 2)) * n351)))) + (IntKind.wrap .i64 (Int.tdiv n354 2)))) 3 fun p365 =>
hfad 0 p365 fun p366 =>
ldI .i64 H p366 fun n367 =>
hnil p346 fun p368 =>
hfad 3 p368 fun p369 =>
ldL H p369 fun q370 l371 c372 =>
hidx q370 l371 (IntKind.wrap .i64 ((IntKind.wrap .i64 (n349 + (IntKind.wrap .i64 (n353 * n347)))) + n354)) 3 fun p373 =>
hfad 0 p373 fun p374 =>
ldI .i64 H p374 fun n375 =>
hidx q357 l358 (IntKind.wrap .i64 ((IntKind.wrap .i64 (n350 + (IntKind.wrap .i64 ((IntKind.wrap .i64 (Int.tdiv n353 2)) * n351)))) + (IntKind.wrap .i64 (Int.tdiv n354 2)))) 3 fun p376 =>
hfad 0 p376 fun p377 =>
hst1 H p377 (.int .i64 (imn n367 n375)) fun H378 =>
rec p346 n347 n348 n349 n350 n351 n352 n353 (IntKind.wrap .i64 (n354 + 1)) H378)
 else (KE6 p346 n347 n348 n349 n350 n351 n352 n353 H)
def R10_Tree_minima_l3 {R : Type} (k : Nat) (KE6 : Oa → Int → Int → Int → Int → Int → Int → Int → Heap → Option R) : Nat → Oa → Int → Int → Int → Int → Int → Int → Int → Int → Heap → Option R
  | 0,_,_,_,_,_,_,_,_,_,_ => none
  | n + 1,p346,n347,n348,n349,n350,n351,n352,n353,n354,H => R10_Tree_minima_l3_b (R10_Tree_minima_l3 k KE6 n) KE6 k p346 n347 n348 n349 n350 n351 n352 n353 n354 H

abbrev R10_Tree_minima_l2_t (R : Type) : Type := (Oa → Int → Int → Int → Heap → Option R) → Nat → Oa → Int → Int → Int → Int → Int → Int → Int → Heap → Option R
def R10_Tree_minima_l2_b {R : Type} (R10_Tree_minima_l3 : R10_Tree_minima_l3_t R) (rec : Oa → Int → Int → Int → Int → Int → Int → Int → Heap → Option R) (KE4 : Oa → Int → Int → Int → Heap → Option R) (k : Nat) (p338 : Oa) (n339 : Int) (n340 : Int) (n341 : Int) (n342 : Int) (n343 : Int) (n344 : Int) (n345 : Int) (H : Heap) : Option R :=
bif decide (n345 < n340) then (R10_Tree_minima_l3 (fun p387 n388 n389 n390 n391 n392 n393 n394 H395 =>
rec p387 n388 n389 n390 n391 n392 n393 (IntKind.wrap .i64 (n394 + 1)) H395) k p338 n339 n340 n341 n342 n343 n344 n345 0 H)
 else (KE4 p338 n342 n343 n344 H)
def R10_Tree_minima_l2 {R : Type} (k : Nat) (KE4 : Oa → Int → Int → Int → Heap → Option R) : Nat → Oa → Int → Int → Int → Int → Int → Int → Int → Heap → Option R
  | 0,_,_,_,_,_,_,_,_,_ => none
  | n + 1,p338,n339,n340,n341,n342,n343,n344,n345,H => R10_Tree_minima_l2_b (R10_Tree_minima_l3 k) (R10_Tree_minima_l2 k KE4 n) KE4 k p338 n339 n340 n341 n342 n343 n344 n345 H

abbrev R10_Tree_minima_l0_t (R : Type) : Type := (Heap → Option R) → Nat → Oa → Int → Int → Int → Heap → Option R
def R10_Tree_minima_l0_b {R : Type} (R10_Tree_minima_l1 : R10_Tree_minima_l1_t R) (R10_Tree_minima_l2 : R10_Tree_minima_l2_t R) (rec : Oa → Int → Int → Int → Heap → Option R) (KE0 : Heap → Option R) (k : Nat) (p303 : Oa) (n304 : Int) (n305 : Int) (n306 : Int) (H : Heap) : Option R :=
bif decide ((IntKind.wrap .i64 (n304 * n305)) > 1) then (R10_Tree_minima_l1 (fun p330 n331 n332 n333 n334 n335 n336 H337 =>
R10_Tree_minima_l2 (fun p400 n401 n402 n403 H404 =>
rec p400 n402 n403 n401 H404) k p330 n331 n332 n333 n334 n335 n336 0 H337) k p303 n304 n305 n306 (IntKind.wrap .i64 (n306 + (IntKind.wrap .i64 (n304 * n305)))) (IntKind.wrap .i64 (Int.tdiv (IntKind.wrap .i64 (n304 + 1)) 2)) (IntKind.wrap .i64 (Int.tdiv (IntKind.wrap .i64 (n305 + 1)) 2)) 0 H)
 else (KE0 H)
def R10_Tree_minima_l0 {R : Type} (k : Nat) (KE0 : Heap → Option R) : Nat → Oa → Int → Int → Int → Heap → Option R
  | 0,_,_,_,_,_ => none
  | n + 1,p303,n304,n305,n306,H => R10_Tree_minima_l0_b (R10_Tree_minima_l1 k) (R10_Tree_minima_l2 k) (R10_Tree_minima_l0 k KE0 n) KE0 k p303 n304 n305 n306 H

abbrev R10_Tree_minima_t (R : Type) : Type := Oa → Heap → (Heap → Option R) → Option R

def R10_Tree_minima_b {R : Type} (R10_Tree_minima_l0 : R10_Tree_minima_l0_t R) (k : Nat) (p296 : Oa) (H : Heap) (K : Heap → Option R) : Option R :=
hnil p296 fun p297 =>
hfad 1 p297 fun p298 =>
ldI .i64 H p298 fun n299 =>
hnil p296 fun p300 =>
hfad 2 p300 fun p301 =>
ldI .i64 H p301 fun n302 =>
R10_Tree_minima_l0 (fun H405 =>
K H405) k p296 n299 n302 0 H

def R10_Tree_minima {R : Type} (k : Nat) (p296 : Oa) (H : Heap) (K : Heap → Option R) : Option R := R10_Tree_minima_b (R10_Tree_minima_l0 k) k p296 H K

def R10_Tree_minima_Ct {R : Type} : Tab R := fun _ _ _ _ => none
def R10_Tree_minima_C (R : Type) (k : Nat) : Tab R := R10_Tree_minima_Ct
theorem R10_Tree_minima_S (R : Type) (k : Nat) : CSound Try.prog (R10_Tree_minima_C R k) := csound_nil
def R10_Tree_minima_aa0 {R : Type} (f : R10_Tree_minima_l0_t R) (n : Nat) (vals : List Value) (H : Heap) (K : Xit → Env → Heap → Option R) : Option R :=
  match vals with
  | [.pointer p303,.int .i64 n304,.int .i64 n305,.int .i64 n306] => f (fun H => K (.exit 0) [] H) n p303 n304 n305 n306 H
  | _ => none
def R10_Tree_minima_a0 (R : Type) (k n : Nat) (vals : List Value) (H : Heap) (K : Xit → Env → Heap → Option R) : Option R := R10_Tree_minima_aa0 (R10_Tree_minima_l0 k) n vals H K
def R10_Tree_minima_aa1 {R : Type} (f : R10_Tree_minima_l1_t R) (n : Nat) (vals : List Value) (H : Heap) (K : Xit → Env → Heap → Option R) : Option R :=
  match vals with
  | [.pointer p307,.int .i64 n308,.int .i64 n309,.int .i64 n310,.int .i64 n311,.int .i64 n312,.int .i64 n313,.int .i64 n314] => f (fun p1623 n1624 n1625 n1626 n1627 n1628 n1629 H => K (.exit 2) [(0,.pointer p1623),(2,.int .i64 n1624),(3,.int .i64 n1625),(4,.int .i64 n1626),(5,.int .i64 n1627),(6,.int .i64 n1628),(7,.int .i64 n1629)] H) n p307 n308 n309 n310 n311 n312 n313 n314 H
  | _ => none
def R10_Tree_minima_a1 (R : Type) (k n : Nat) (vals : List Value) (H : Heap) (K : Xit → Env → Heap → Option R) : Option R := R10_Tree_minima_aa1 (R10_Tree_minima_l1 k) n vals H K
def R10_Tree_minima_aa2 {R : Type} (f : R10_Tree_minima_l2_t R) (n : Nat) (vals : List Value) (H : Heap) (K : Xit → Env → Heap → Option R) : Option R :=
  match vals with
  | [.pointer p338,.int .i64 n339,.int .i64 n340,.int .i64 n341,.int .i64 n342,.int .i64 n343,.int .i64 n344,.int .i64 n345] => f (fun p1630 n1631 n1632 n1633 H => K (.exit 4) [(0,.pointer p1630),(5,.int .i64 n1631),(6,.int .i64 n1632),(7,.int .i64 n1633)] H) n p338 n339 n340 n341 n342 n343 n344 n345 H
  | _ => none
def R10_Tree_minima_a2 (R : Type) (k n : Nat) (vals : List Value) (H : Heap) (K : Xit → Env → Heap → Option R) : Option R := R10_Tree_minima_aa2 (R10_Tree_minima_l2 k) n vals H K
def R10_Tree_minima_aa3 {R : Type} (f : R10_Tree_minima_l3_t R) (n : Nat) (vals : List Value) (H : Heap) (K : Xit → Env → Heap → Option R) : Option R :=
  match vals with
  | [.pointer p346,.int .i64 n347,.int .i64 n348,.int .i64 n349,.int .i64 n350,.int .i64 n351,.int .i64 n352,.int .i64 n353,.int .i64 n354] => f (fun p1634 n1635 n1636 n1637 n1638 n1639 n1640 n1641 H => K (.exit 6) [(0,.pointer p1634),(2,.int .i64 n1635),(3,.int .i64 n1636),(4,.int .i64 n1637),(5,.int .i64 n1638),(6,.int .i64 n1639),(7,.int .i64 n1640),(9,.int .i64 n1641)] H) n p346 n347 n348 n349 n350 n351 n352 n353 n354 H
  | _ => none
def R10_Tree_minima_a3 (R : Type) (k n : Nat) (vals : List Value) (H : Heap) (K : Xit → Env → Heap → Option R) : Option R := R10_Tree_minima_aa3 (R10_Tree_minima_l3 k) n vals H K
def R10_Tree_minima_Jt {R : Type} (k : Nat) (R10_Tree_minima_l0 : R10_Tree_minima_l0_t R) (R10_Tree_minima_l1 : R10_Tree_minima_l1_t R) (R10_Tree_minima_l2 : R10_Tree_minima_l2_t R) (R10_Tree_minima_l3 : R10_Tree_minima_l3_t R) : JTab R := tcons 0 (R10_Tree_minima_aa0 R10_Tree_minima_l0 k) <| tcons 1 (R10_Tree_minima_aa1 R10_Tree_minima_l1 k) <| tcons 2 (R10_Tree_minima_aa2 R10_Tree_minima_l2 k) <| tcons 3 (R10_Tree_minima_aa3 R10_Tree_minima_l3 k) <| fun _ _ _ _ => none
def R10_Tree_minima_J (R : Type) (k : Nat) : JTab R := R10_Tree_minima_Jt k (R10_Tree_minima_l0 k) (R10_Tree_minima_l1 k) (R10_Tree_minima_l2 k) (R10_Tree_minima_l3 k)
def R10_Tree_minima_at : AT := (.seq (.reg [0,2,3,4] [[],[0],[0,1],[0,1,2],[],[4],[4,5],[4,5,6],[0,1,2,3],[0,1,2,3,4,5,6,7,8],[0,1,2,3,4,5,6,7,8,9]]) (.node (.opq 0 [0,2,3,4] ⟨[],[(0,[])],[]⟩ (.node (.seq (.seq (.reg [0,2,3,4,23] []) (.cond .leaf .leaf)) (.node (.seq (.reg [0,2,3,4,5] []) (.seq (.reg [0,2,3,4,5,6,7] []) (.seq (.seq (.reg [0,2,3,4,5,6,7,8] []) (.node (.opq 1 [0,2,3,4,5,6,7,8] ⟨[],[(2,[0,2,3,4,5,6,7])],[]⟩ (.node (.seq (.seq (.reg [0,2,3,4,5,6,7,8,39] []) (.cond .leaf .leaf)) (.seq (.node (.reg [0,2,3,4,5,6,7,8] [])) (.reg [0,2,3,4,5,6,7,8] []))))))) (.seq (.seq (.reg [0,2,3,4,5,6,7,9] []) (.node (.opq 2 [0,2,3,4,5,6,7,9] ⟨[],[(4,[0,5,6,7])],[]⟩ (.node (.seq (.seq (.reg [0,2,3,4,5,6,7,9,53] []) (.cond .leaf .leaf)) (.seq (.node (.seq (.reg [0,2,3,4,5,6,7,9,10] []) (.node (.opq 3 [0,2,3,4,5,6,7,9,10] ⟨[],[(6,[0,2,3,4,5,6,7,9])],[]⟩ (.node (.seq (.seq (.reg [0,2,3,4,5,6,7,9,10,58] []) (.cond .leaf .leaf)) (.seq (.node (.seq (.reg [0,2,3,4,5,6,7,9,10,11] []) (.reg [0,2,3,4,5,6,7,9,10] [[],[0],[0,1],[0,1,2],[],[],[5],[5,6],[5,6,7],[],[5,6,7,8,9],[5,6,7,8,9,10],[5,6,7,8,9,10,11],[],[13],[13,14],[13,14,15],[],[],[],[18,19],[17,18,19,20],[],[17,18,19,20,21,22],[13,14,15,16,17,18,19,20,21,22,23],[13,14,15,16,17,18,19,20,21,22,23,24],[13,14,15,16,17,18,19,20,21,22,23,24,25],[5,6,7,8,9,10,11,12,13,14,15,16,17,18,19,20,21,22,23,24,25,26],[0,1,2,3,4,5,6,7,8,9,10,11,12,13,14,15,16,17,18,19,20,21,22,23,24,25,26,27],[0,1,2,3,4,5,6,7,8,9,10,11,12,13,14,15,16,17,18,19,20,21,22,23,24,25,26,27,28],[0,1,2,3,4,5,6,7,8,9,10,11,12,13,14,15,16,17,18,19,20,21,22,23,24,25,26,27,28,29]]))) (.reg [0,2,3,4,5,6,7,9,10] [])))))))) (.reg [0,2,3,4,5,6,7,9] []))))))) (.reg [0,2,3,4] [])))))))))))
def R10_Tree_minima_i3 : IC := (.seq (.seq (.reg [⟨some 56,.mov (.t 10),none⟩,
⟨some 57,.mov (.t 2),none⟩,
⟨some 58,.cmp .lss (.t 56) (.t 57),none⟩] [0,2,3,4,5,6,7,9,10,58]) (.cond (.t 58) .skip (.exit 6))) (.seq (.block 7 (.seq (.reg [⟨some 61,.mov (.t 5),none⟩,
⟨some 62,.mov (.t 9),none⟩,
⟨some 63,.bin .quo .i64 (.t 62) (.c (Go.Value.int Go.IntKind.i64 2)),none⟩,
⟨some 64,.mov (.t 6),none⟩,
⟨some 65,.bin .mul .i64 (.t 63) (.t 64),none⟩,
⟨some 66,.bin .add .i64 (.t 61) (.t 65),none⟩,
⟨some 67,.mov (.t 10),none⟩,
⟨some 68,.bin .quo .i64 (.t 67) (.c (Go.Value.int Go.IntKind.i64 2)),none⟩,
⟨some 69,.bin .add .i64 (.t 66) (.t 68),none⟩,
⟨some 11,.mov (.t 69),none⟩] [0,2,3,4,5,6,7,9,10,11]) (.reg [⟨some 70,.mov (.t 0),none⟩,
⟨some 71,.nilc (.t 70),none⟩,
⟨some 72,.fad 3 (.t 71),none⟩,
⟨some 73,.ld (.sc .slc) (.t 72),none⟩,
⟨some 74,.mov (.t 11),none⟩,
⟨some 75,.mov (.t 0),none⟩,
⟨some 76,.nilc (.t 75),none⟩,
⟨some 77,.fad 3 (.t 76),none⟩,
⟨some 78,.ld (.sc .slc) (.t 77),none⟩,
⟨some 79,.mov (.t 11),none⟩,
⟨some 80,.ids 3 (.t 78) (.t 79),none⟩,
⟨some 81,.fad 0 (.t 80),none⟩,
⟨some 82,.ld (.sc (.int .i64)) (.t 81),none⟩,
⟨some 83,.mov (.t 0),none⟩,
⟨some 84,.nilc (.t 83),none⟩,
⟨some 85,.fad 3 (.t 84),none⟩,
⟨some 86,.ld (.sc .slc) (.t 85),none⟩,
⟨some 87,.mov (.t 4),none⟩,
⟨some 88,.mov (.t 9),none⟩,
⟨some 89,.mov (.t 2),none⟩,
⟨some 90,.bin .mul .i64 (.t 88) (.t 89),none⟩,
⟨some 91,.bin .add .i64 (.t 87) (.t 90),none⟩,
⟨some 92,.mov (.t 10),none⟩,
⟨some 93,.bin .add .i64 (.t 91) (.t 92),none⟩,
⟨some 94,.ids 3 (.t 86) (.t 93),none⟩,
⟨some 95,.fad 0 (.t 94),none⟩,
⟨some 96,.ld (.sc (.int .i64)) (.t 95),none⟩,
⟨some 97,.mn (.t 82) (.t 96),none⟩,
⟨some 98,.ids 3 (.t 73) (.t 74),none⟩,
⟨some 99,.fad 0 (.t 98),none⟩,
⟨none,.st 1 (.t 99) (.t 97),none⟩] [0,2,3,4,5,6,7,9,10]))) (.reg [⟨some 59,.mov (.t 10),none⟩,
⟨some 60,.bin .add .i64 (.t 59) (.c (Go.Value.int Go.IntKind.i64 1)),none⟩,
⟨some 10,.mov (.t 60),none⟩] [0,2,3,4,5,6,7,9,10])))
def R10_Tree_minima_i2 : IC := (.seq (.seq (.reg [⟨some 51,.mov (.t 9),none⟩,
⟨some 52,.mov (.t 3),none⟩,
⟨some 53,.cmp .lss (.t 51) (.t 52),none⟩] [0,2,3,4,5,6,7,9,53]) (.cond (.t 53) .skip (.exit 4))) (.seq (.block 5 (.seq (.reg [⟨some 10,.mov (.c (Go.Value.int Go.IntKind.i64 0)),none⟩] [0,2,3,4,5,6,7,9,10]) (.block 6 (.opq 3 [0,2,3,4,5,6,7,9,10] (.loop R10_Tree_minima_i3))))) (.reg [⟨some 54,.mov (.t 9),none⟩,
⟨some 55,.bin .add .i64 (.t 54) (.c (Go.Value.int Go.IntKind.i64 1)),none⟩,
⟨some 9,.mov (.t 55),none⟩] [0,2,3,4,5,6,7,9])))
def R10_Tree_minima_i1 : IC := (.seq (.seq (.reg [⟨some 35,.mov (.t 8),none⟩,
⟨some 36,.mov (.t 6),none⟩,
⟨some 37,.mov (.t 7),none⟩,
⟨some 38,.bin .mul .i64 (.t 36) (.t 37),none⟩,
⟨some 39,.cmp .lss (.t 35) (.t 38),none⟩] [0,2,3,4,5,6,7,8,39]) (.cond (.t 39) .skip (.exit 2))) (.seq (.block 3 (.reg [⟨some 42,.mov (.t 0),none⟩,
⟨some 43,.nilc (.t 42),none⟩,
⟨some 44,.fad 3 (.t 43),none⟩,
⟨some 45,.ld (.sc .slc) (.t 44),none⟩,
⟨some 46,.mov (.t 5),none⟩,
⟨some 47,.mov (.t 8),none⟩,
⟨some 48,.bin .add .i64 (.t 46) (.t 47),none⟩,
⟨some 49,.ids 3 (.t 45) (.t 48),none⟩,
⟨some 50,.fad 0 (.t 49),none⟩,
⟨none,.st 1 (.t 50) (.c (Go.Value.int Go.IntKind.i64 65536)),none⟩] [0,2,3,4,5,6,7,8])) (.reg [⟨some 40,.mov (.t 8),none⟩,
⟨some 41,.bin .add .i64 (.t 40) (.c (Go.Value.int Go.IntKind.i64 1)),none⟩,
⟨some 8,.mov (.t 41),none⟩] [0,2,3,4,5,6,7,8])))
def R10_Tree_minima_i0 : IC := (.seq (.seq (.reg [⟨some 20,.mov (.t 2),none⟩,
⟨some 21,.mov (.t 3),none⟩,
⟨some 22,.bin .mul .i64 (.t 20) (.t 21),none⟩,
⟨some 23,.cmp .gtr (.t 22) (.c (Go.Value.int Go.IntKind.i64 1)),none⟩] [0,2,3,4,23]) (.cond (.t 23) .skip (.exit 0))) (.block 1 (.seq (.reg [⟨some 24,.mov (.t 4),none⟩,
⟨some 25,.mov (.t 2),none⟩,
⟨some 26,.mov (.t 3),none⟩,
⟨some 27,.bin .mul .i64 (.t 25) (.t 26),none⟩,
⟨some 28,.bin .add .i64 (.t 24) (.t 27),none⟩,
⟨some 5,.mov (.t 28),none⟩] [0,2,3,4,5]) (.seq (.reg [⟨some 29,.mov (.t 2),none⟩,
⟨some 30,.bin .add .i64 (.t 29) (.c (Go.Value.int Go.IntKind.i64 1)),none⟩,
⟨some 31,.bin .quo .i64 (.t 30) (.c (Go.Value.int Go.IntKind.i64 2)),none⟩,
⟨some 32,.mov (.t 3),none⟩,
⟨some 33,.bin .add .i64 (.t 32) (.c (Go.Value.int Go.IntKind.i64 1)),none⟩,
⟨some 34,.bin .quo .i64 (.t 33) (.c (Go.Value.int Go.IntKind.i64 2)),none⟩,
⟨some 6,.mov (.t 31),none⟩,
⟨some 7,.mov (.t 34),none⟩] [0,2,3,4,5,6,7]) (.seq (.seq (.reg [⟨some 8,.mov (.c (Go.Value.int Go.IntKind.i64 0)),none⟩] [0,2,3,4,5,6,7,8]) (.block 2 (.opq 1 [0,2,3,4,5,6,7,8] (.loop R10_Tree_minima_i1)))) (.seq (.seq (.reg [⟨some 9,.mov (.c (Go.Value.int Go.IntKind.i64 0)),none⟩] [0,2,3,4,5,6,7,9]) (.block 4 (.opq 2 [0,2,3,4,5,6,7,9] (.loop R10_Tree_minima_i2)))) (.reg [⟨some 100,.mov (.t 6),none⟩,
⟨some 101,.mov (.t 7),none⟩,
⟨some 102,.mov (.t 5),none⟩,
⟨some 2,.mov (.t 100),none⟩,
⟨some 3,.mov (.t 101),none⟩,
⟨some 4,.mov (.t 102),none⟩] [0,2,3,4])))))))
def R10_Tree_minima_f : IFn := ⟨103,[],(.seq (.reg [⟨some 12,.mov (.t 0),none⟩,
⟨some 13,.nilc (.t 12),none⟩,
⟨some 14,.fad 1 (.t 13),none⟩,
⟨some 15,.ld (.sc (.int .i64)) (.t 14),none⟩,
⟨some 16,.mov (.t 0),none⟩,
⟨some 17,.nilc (.t 16),none⟩,
⟨some 18,.fad 2 (.t 17),none⟩,
⟨some 19,.ld (.sc (.int .i64)) (.t 18),none⟩,
⟨some 2,.mov (.t 15),none⟩,
⟨some 3,.mov (.t 19),none⟩,
⟨some 4,.mov (.c (Go.Value.int Go.IntKind.i64 0)),none⟩] [0,2,3,4]) (.block 0 (.opq 0 [0,2,3,4] (.loop R10_Tree_minima_i0))))⟩
theorem R10_Tree_minima_e3 {R : Type} (R10_Tree_minima_l0 : R10_Tree_minima_l0_t R) (R10_Tree_minima_l1 : R10_Tree_minima_l1_t R) (R10_Tree_minima_l2 : R10_Tree_minima_l2_t R) (R10_Tree_minima_l3 : R10_Tree_minima_l3_t R) (k n : Nat) (p346 : Oa) (n347 : Int) (n348 : Int) (n349 : Int) (n350 : Int) (n351 : Int) (n352 : Int) (n353 : Int) (n354 : Int) (H : Heap) (K : Xit → Env → Heap → Option R) : evJ (R10_Tree_minima_Ct) (R10_Tree_minima_Jt k R10_Tree_minima_l0 R10_Tree_minima_l1 R10_Tree_minima_l2 R10_Tree_minima_l3) R10_Tree_minima_i3 (List.zip [0,2,3,4,5,6,7,9,10] [.pointer p346,.int .i64 n347,.int .i64 n348,.int .i64 n349,.int .i64 n350,.int .i64 n351,.int .i64 n352,.int .i64 n353,.int .i64 n354]) H (fun x e' H' => match x with | .normal => R10_Tree_minima_aa3 R10_Tree_minima_l3 n ((clean e' [0,2,3,4,5,6,7,9,10]).map (·.2)) H' K | x => K x (clean e' ((⟨[],[(6,[0,2,3,4,5,6,7,9])],[]⟩ : Out).of x)) H') = R10_Tree_minima_l3_b (R10_Tree_minima_l3 (fun p1634 n1635 n1636 n1637 n1638 n1639 n1640 n1641 H => K (.exit 6) [(0,.pointer p1634),(2,.int .i64 n1635),(3,.int .i64 n1636),(4,.int .i64 n1637),(5,.int .i64 n1638),(6,.int .i64 n1639),(7,.int .i64 n1640),(9,.int .i64 n1641)] H) n) (fun p1634 n1635 n1636 n1637 n1638 n1639 n1640 n1641 H => K (.exit 6) [(0,.pointer p1634),(2,.int .i64 n1635),(3,.int .i64 n1636),(4,.int .i64 n1637),(5,.int .i64 n1638),(6,.int .i64 n1639),(7,.int .i64 n1640),(9,.int .i64 n1641)] H) k p346 n347 n348 n349 n350 n351 n352 n353 n354 H := by kernel_rfl
theorem R10_Tree_minima_j3 {R : Type} (k : Nat) : JS Try.prog 103 (R10_Tree_minima_a3 R k k) [0,2,3,4,5,6,7,9,10] ⟨[],[(6,[0,2,3,4,5,6,7,9])],[]⟩ (.loop (sel [1,0,0,1,0,1,1,1,0,1,0,0,1,0,0,1,0,0] (Try.f48.body.getD .skip))) :=
  loop_ok (nt := 103) (c := (sel [1,0,0,1,0,1,1,1,0,1,0,0,1,0,0,1,0,0] (Try.f48.body.getD .skip))) (C := R10_Tree_minima_C R k) (an := An) (t := (.seq (.seq (.reg [0,2,3,4,5,6,7,9,10,58] []) (.cond .leaf .leaf)) (.seq (.node (.seq (.reg [0,2,3,4,5,6,7,9,10,11] []) (.reg [0,2,3,4,5,6,7,9,10] [[],[0],[0,1],[0,1,2],[],[],[5],[5,6],[5,6,7],[],[5,6,7,8,9],[5,6,7,8,9,10],[5,6,7,8,9,10,11],[],[13],[13,14],[13,14,15],[],[],[],[18,19],[17,18,19,20],[],[17,18,19,20,21,22],[13,14,15,16,17,18,19,20,21,22,23],[13,14,15,16,17,18,19,20,21,22,23,24],[13,14,15,16,17,18,19,20,21,22,23,24,25],[5,6,7,8,9,10,11,12,13,14,15,16,17,18,19,20,21,22,23,24,25,26],[0,1,2,3,4,5,6,7,8,9,10,11,12,13,14,15,16,17,18,19,20,21,22,23,24,25,26,27],[0,1,2,3,4,5,6,7,8,9,10,11,12,13,14,15,16,17,18,19,20,21,22,23,24,25,26,27,28],[0,1,2,3,4,5,6,7,8,9,10,11,12,13,14,15,16,17,18,19,20,21,22,23,24,25,26,27,28,29]]))) (.reg [0,2,3,4,5,6,7,9,10] [])))) (ic := R10_Tree_minima_i3) (R10_Tree_minima_S R k) (R10_Tree_minima_J R k) (by kernel_rfl) (And.intro (And.intro True.intro (And.intro True.intro True.intro)) (And.intro (And.intro True.intro True.intro) True.intro)) (R10_Tree_minima_a3 R k) (fun vals H K => by unfold R10_Tree_minima_a3 R10_Tree_minima_aa3; split <;> rfl)
    (fun n vals H K r h => by
      unfold R10_Tree_minima_a3 R10_Tree_minima_aa3 at h
      split at h <;> first | (cases h; done) | exact Eq.trans (R10_Tree_minima_e3 (R10_Tree_minima_l0 k) (R10_Tree_minima_l1 k) (R10_Tree_minima_l2 k) (R10_Tree_minima_l3 k) k n _ _ _ _ _ _ _ _ _ H K) h) k
theorem R10_Tree_minima_e2 {R : Type} (R10_Tree_minima_l0 : R10_Tree_minima_l0_t R) (R10_Tree_minima_l1 : R10_Tree_minima_l1_t R) (R10_Tree_minima_l2 : R10_Tree_minima_l2_t R) (R10_Tree_minima_l3 : R10_Tree_minima_l3_t R) (k n : Nat) (p338 : Oa) (n339 : Int) (n340 : Int) (n341 : Int) (n342 : Int) (n343 : Int) (n344 : Int) (n345 : Int) (H : Heap) (K : Xit → Env → Heap → Option R) : evJ (R10_Tree_minima_Ct) (R10_Tree_minima_Jt k R10_Tree_minima_l0 R10_Tree_minima_l1 R10_Tree_minima_l2 R10_Tree_minima_l3) R10_Tree_minima_i2 (List.zip [0,2,3,4,5,6,7,9] [.pointer p338,.int .i64 n339,.int .i64 n340,.int .i64 n341,.int .i64 n342,.int .i64 n343,.int .i64 n344,.int .i64 n345]) H (fun x e' H' => match x with | .normal => R10_Tree_minima_aa2 R10_Tree_minima_l2 n ((clean e' [0,2,3,4,5,6,7,9]).map (·.2)) H' K | x => K x (clean e' ((⟨[],[(4,[0,5,6,7])],[]⟩ : Out).of x)) H') = R10_Tree_minima_l2_b R10_Tree_minima_l3 (R10_Tree_minima_l2 (fun p1630 n1631 n1632 n1633 H => K (.exit 4) [(0,.pointer p1630),(5,.int .i64 n1631),(6,.int .i64 n1632),(7,.int .i64 n1633)] H) n) (fun p1630 n1631 n1632 n1633 H => K (.exit 4) [(0,.pointer p1630),(5,.int .i64 n1631),(6,.int .i64 n1632),(7,.int .i64 n1633)] H) k p338 n339 n340 n341 n342 n343 n344 n345 H := by kernel_rfl
theorem R10_Tree_minima_j2 {R : Type} (k : Nat) : JS Try.prog 103 (R10_Tree_minima_a2 R k k) [0,2,3,4,5,6,7,9] ⟨[],[(4,[0,5,6,7])],[]⟩ (.loop (sel [1,0,0,1,0,1,1,1,0,1,0,0] (Try.f48.body.getD .skip))) :=
  loop_ok (nt := 103) (c := (sel [1,0,0,1,0,1,1,1,0,1,0,0] (Try.f48.body.getD .skip))) (C := R10_Tree_minima_C R k) (an := An) (t := (.seq (.seq (.reg [0,2,3,4,5,6,7,9,53] []) (.cond .leaf .leaf)) (.seq (.node (.seq (.reg [0,2,3,4,5,6,7,9,10] []) (.node (.opq 3 [0,2,3,4,5,6,7,9,10] ⟨[],[(6,[0,2,3,4,5,6,7,9])],[]⟩ (.node (.seq (.seq (.reg [0,2,3,4,5,6,7,9,10,58] []) (.cond .leaf .leaf)) (.seq (.node (.seq (.reg [0,2,3,4,5,6,7,9,10,11] []) (.reg [0,2,3,4,5,6,7,9,10] [[],[0],[0,1],[0,1,2],[],[],[5],[5,6],[5,6,7],[],[5,6,7,8,9],[5,6,7,8,9,10],[5,6,7,8,9,10,11],[],[13],[13,14],[13,14,15],[],[],[],[18,19],[17,18,19,20],[],[17,18,19,20,21,22],[13,14,15,16,17,18,19,20,21,22,23],[13,14,15,16,17,18,19,20,21,22,23,24],[13,14,15,16,17,18,19,20,21,22,23,24,25],[5,6,7,8,9,10,11,12,13,14,15,16,17,18,19,20,21,22,23,24,25,26],[0,1,2,3,4,5,6,7,8,9,10,11,12,13,14,15,16,17,18,19,20,21,22,23,24,25,26,27],[0,1,2,3,4,5,6,7,8,9,10,11,12,13,14,15,16,17,18,19,20,21,22,23,24,25,26,27,28],[0,1,2,3,4,5,6,7,8,9,10,11,12,13,14,15,16,17,18,19,20,21,22,23,24,25,26,27,28,29]]))) (.reg [0,2,3,4,5,6,7,9,10] [])))))))) (.reg [0,2,3,4,5,6,7,9] [])))) (ic := R10_Tree_minima_i2) (R10_Tree_minima_S R k) (R10_Tree_minima_J R k) (by kernel_rfl) (And.intro (And.intro True.intro (And.intro True.intro True.intro)) (And.intro (And.intro True.intro (R10_Tree_minima_j3 k)) True.intro)) (R10_Tree_minima_a2 R k) (fun vals H K => by unfold R10_Tree_minima_a2 R10_Tree_minima_aa2; split <;> rfl)
    (fun n vals H K r h => by
      unfold R10_Tree_minima_a2 R10_Tree_minima_aa2 at h
      split at h <;> first | (cases h; done) | exact Eq.trans (R10_Tree_minima_e2 (R10_Tree_minima_l0 k) (R10_Tree_minima_l1 k) (R10_Tree_minima_l2 k) (R10_Tree_minima_l3 k) k n _ _ _ _ _ _ _ _ H K) h) k
theorem R10_Tree_minima_e1 {R : Type} (R10_Tree_minima_l0 : R10_Tree_minima_l0_t R) (R10_Tree_minima_l1 : R10_Tree_minima_l1_t R) (R10_Tree_minima_l2 : R10_Tree_minima_l2_t R) (R10_Tree_minima_l3 : R10_Tree_minima_l3_t R) (k n : Nat) (p307 : Oa) (n308 : Int) (n309 : Int) (n310 : Int) (n311 : Int) (n312 : Int) (n313 : Int) (n314 : Int) (H : Heap) (K : Xit → Env → Heap → Option R) : evJ (R10_Tree_minima_Ct) (R10_Tree_minima_Jt k R10_Tree_minima_l0 R10_Tree_minima_l1 R10_Tree_minima_l2 R10_Tree_minima_l3) R10_Tree_minima_i1 (List.zip [0,2,3,4,5,6,7,8] [.pointer p307,.int .i64 n308,.int .i64 n309,.int .i64 n310,.int .i64 n311,.int .i64 n312,.int .i64 n313,.int .i64 n314]) H (fun x e' H' => match x with | .normal => R10_Tree_minima_aa1 R10_Tree_minima_l1 n ((clean e' [0,2,3,4,5,6,7,8]).map (·.2)) H' K | x => K x (clean e' ((⟨[],[(2,[0,2,3,4,5,6,7])],[]⟩ : Out).of x)) H') = R10_Tree_minima_l1_b (R10_Tree_minima_l1 (fun p1623 n1624 n1625 n1626 n1627 n1628 n1629 H => K (.exit 2) [(0,.pointer p1623),(2,.int .i64 n1624),(3,.int .i64 n1625),(4,.int .i64 n1626),(5,.int .i64 n1627),(6,.int .i64 n1628),(7,.int .i64 n1629)] H) n) (fun p1623 n1624 n1625 n1626 n1627 n1628 n1629 H => K (.exit 2) [(0,.pointer p1623),(2,.int .i64 n1624),(3,.int .i64 n1625),(4,.int .i64 n1626),(5,.int .i64 n1627),(6,.int .i64 n1628),(7,.int .i64 n1629)] H) k p307 n308 n309 n310 n311 n312 n313 n314 H := by kernel_rfl
theorem R10_Tree_minima_j1 {R : Type} (k : Nat) : JS Try.prog 103 (R10_Tree_minima_a1 R k k) [0,2,3,4,5,6,7,8] ⟨[],[(2,[0,2,3,4,5,6,7])],[]⟩ (.loop (sel [1,0,0,1,0,1,1,0,1,0,0] (Try.f48.body.getD .skip))) :=
  loop_ok (nt := 103) (c := (sel [1,0,0,1,0,1,1,0,1,0,0] (Try.f48.body.getD .skip))) (C := R10_Tree_minima_C R k) (an := An) (t := (.seq (.seq (.reg [0,2,3,4,5,6,7,8,39] []) (.cond .leaf .leaf)) (.seq (.node (.reg [0,2,3,4,5,6,7,8] [])) (.reg [0,2,3,4,5,6,7,8] [])))) (ic := R10_Tree_minima_i1) (R10_Tree_minima_S R k) (R10_Tree_minima_J R k) (by kernel_rfl) (And.intro (And.intro True.intro (And.intro True.intro True.intro)) (And.intro True.intro True.intro)) (R10_Tree_minima_a1 R k) (fun vals H K => by unfold R10_Tree_minima_a1 R10_Tree_minima_aa1; split <;> rfl)
    (fun n vals H K r h => by
      unfold R10_Tree_minima_a1 R10_Tree_minima_aa1 at h
      split at h <;> first | (cases h; done) | exact Eq.trans (R10_Tree_minima_e1 (R10_Tree_minima_l0 k) (R10_Tree_minima_l1 k) (R10_Tree_minima_l2 k) (R10_Tree_minima_l3 k) k n _ _ _ _ _ _ _ _ H K) h) k
theorem R10_Tree_minima_e0 {R : Type} (R10_Tree_minima_l0 : R10_Tree_minima_l0_t R) (R10_Tree_minima_l1 : R10_Tree_minima_l1_t R) (R10_Tree_minima_l2 : R10_Tree_minima_l2_t R) (R10_Tree_minima_l3 : R10_Tree_minima_l3_t R) (k n : Nat) (p303 : Oa) (n304 : Int) (n305 : Int) (n306 : Int) (H : Heap) (K : Xit → Env → Heap → Option R) : evJ (R10_Tree_minima_Ct) (R10_Tree_minima_Jt k R10_Tree_minima_l0 R10_Tree_minima_l1 R10_Tree_minima_l2 R10_Tree_minima_l3) R10_Tree_minima_i0 (List.zip [0,2,3,4] [.pointer p303,.int .i64 n304,.int .i64 n305,.int .i64 n306]) H (fun x e' H' => match x with | .normal => R10_Tree_minima_aa0 R10_Tree_minima_l0 n ((clean e' [0,2,3,4]).map (·.2)) H' K | x => K x (clean e' ((⟨[],[(0,[])],[]⟩ : Out).of x)) H') = R10_Tree_minima_l0_b R10_Tree_minima_l1 R10_Tree_minima_l2 (R10_Tree_minima_l0 (fun H => K (.exit 0) [] H) n) (fun H => K (.exit 0) [] H) k p303 n304 n305 n306 H := by kernel_rfl
theorem R10_Tree_minima_j0 {R : Type} (k : Nat) : JS Try.prog 103 (R10_Tree_minima_a0 R k k) [0,2,3,4] ⟨[],[(0,[])],[]⟩ (.loop (sel [1,0,0] (Try.f48.body.getD .skip))) :=
  loop_ok (nt := 103) (c := (sel [1,0,0] (Try.f48.body.getD .skip))) (C := R10_Tree_minima_C R k) (an := An) (t := (.seq (.seq (.reg [0,2,3,4,23] []) (.cond .leaf .leaf)) (.node (.seq (.reg [0,2,3,4,5] []) (.seq (.reg [0,2,3,4,5,6,7] []) (.seq (.seq (.reg [0,2,3,4,5,6,7,8] []) (.node (.opq 1 [0,2,3,4,5,6,7,8] ⟨[],[(2,[0,2,3,4,5,6,7])],[]⟩ (.node (.seq (.seq (.reg [0,2,3,4,5,6,7,8,39] []) (.cond .leaf .leaf)) (.seq (.node (.reg [0,2,3,4,5,6,7,8] [])) (.reg [0,2,3,4,5,6,7,8] []))))))) (.seq (.seq (.reg [0,2,3,4,5,6,7,9] []) (.node (.opq 2 [0,2,3,4,5,6,7,9] ⟨[],[(4,[0,5,6,7])],[]⟩ (.node (.seq (.seq (.reg [0,2,3,4,5,6,7,9,53] []) (.cond .leaf .leaf)) (.seq (.node (.seq (.reg [0,2,3,4,5,6,7,9,10] []) (.node (.opq 3 [0,2,3,4,5,6,7,9,10] ⟨[],[(6,[0,2,3,4,5,6,7,9])],[]⟩ (.node (.seq (.seq (.reg [0,2,3,4,5,6,7,9,10,58] []) (.cond .leaf .leaf)) (.seq (.node (.seq (.reg [0,2,3,4,5,6,7,9,10,11] []) (.reg [0,2,3,4,5,6,7,9,10] [[],[0],[0,1],[0,1,2],[],[],[5],[5,6],[5,6,7],[],[5,6,7,8,9],[5,6,7,8,9,10],[5,6,7,8,9,10,11],[],[13],[13,14],[13,14,15],[],[],[],[18,19],[17,18,19,20],[],[17,18,19,20,21,22],[13,14,15,16,17,18,19,20,21,22,23],[13,14,15,16,17,18,19,20,21,22,23,24],[13,14,15,16,17,18,19,20,21,22,23,24,25],[5,6,7,8,9,10,11,12,13,14,15,16,17,18,19,20,21,22,23,24,25,26],[0,1,2,3,4,5,6,7,8,9,10,11,12,13,14,15,16,17,18,19,20,21,22,23,24,25,26,27],[0,1,2,3,4,5,6,7,8,9,10,11,12,13,14,15,16,17,18,19,20,21,22,23,24,25,26,27,28],[0,1,2,3,4,5,6,7,8,9,10,11,12,13,14,15,16,17,18,19,20,21,22,23,24,25,26,27,28,29]]))) (.reg [0,2,3,4,5,6,7,9,10] [])))))))) (.reg [0,2,3,4,5,6,7,9] []))))))) (.reg [0,2,3,4] [])))))))) (ic := R10_Tree_minima_i0) (R10_Tree_minima_S R k) (R10_Tree_minima_J R k) (by kernel_rfl) (And.intro (And.intro True.intro (And.intro True.intro True.intro)) (And.intro True.intro (And.intro True.intro (And.intro (And.intro True.intro (R10_Tree_minima_j1 k)) (And.intro (And.intro True.intro (R10_Tree_minima_j2 k)) True.intro))))) (R10_Tree_minima_a0 R k) (fun vals H K => by unfold R10_Tree_minima_a0 R10_Tree_minima_aa0; split <;> rfl)
    (fun n vals H K r h => by
      unfold R10_Tree_minima_a0 R10_Tree_minima_aa0 at h
      split at h <;> first | (cases h; done) | exact Eq.trans (R10_Tree_minima_e0 (R10_Tree_minima_l0 k) (R10_Tree_minima_l1 k) (R10_Tree_minima_l2 k) (R10_Tree_minima_l3 k) k n _ _ _ _ H K) h) k
def R10_Tree_minima_ca {R : Type} (f : R10_Tree_minima_t R) (args : List Value) (H : Heap) (K : Value → Heap → Option R) : Option R :=
  match args with
  | [.pointer p296] => f p296 H (fun H => K (undef) H)
  | _ => none
def R10_Tree_minima_c (R : Type) (k : Nat) (args : List Value) (H : Heap) (K : Value → Heap → Option R) : Option R := R10_Tree_minima_ca (R10_Tree_minima k) args H K
theorem R10_Tree_minima_e {R : Type} (R10_Tree_minima_l0 : R10_Tree_minima_l0_t R) (R10_Tree_minima_l1 : R10_Tree_minima_l1_t R) (R10_Tree_minima_l2 : R10_Tree_minima_l2_t R) (R10_Tree_minima_l3 : R10_Tree_minima_l3_t R) (k : Nat) (p296 : Oa) (H : Heap) (K : Value → Heap → Option R) : evF (R10_Tree_minima_Ct) (R10_Tree_minima_Jt k R10_Tree_minima_l0 R10_Tree_minima_l1 R10_Tree_minima_l2 R10_Tree_minima_l3) R10_Tree_minima_f [.pointer p296] H K = R10_Tree_minima_b R10_Tree_minima_l0 k p296 H (fun H => K (undef) H) := by kernel_rfl
theorem R10_Tree_minima_cs (R : Type) (k : Nat) : ∀ args H K r,R10_Tree_minima_c R k args H K = some r → ∃ v H',Tri Try.prog 48 args H v H' ∧ K v H' = some r := by
  intro args H K r h
  unfold R10_Tree_minima_c R10_Tree_minima_ca at h
  split at h
  · exact evF_ok (C := R10_Tree_minima_C R k) (an := An) (t := R10_Tree_minima_at) (fn := Try.f48) (c := (Try.f48.body.getD .skip)) (ifn := R10_Tree_minima_f) (R10_Tree_minima_S R k) (R10_Tree_minima_J R k) Try.func48 (by kernel_rfl) (by kernel_rfl) (And.intro True.intro (R10_Tree_minima_j0 k)) rfl (Eq.trans (R10_Tree_minima_e (R10_Tree_minima_l0 k) (R10_Tree_minima_l1 k) (R10_Tree_minima_l2 k) (R10_Tree_minima_l3 k) k _ H K) h)
  · cases h
/-! ### R09_Writer_Put: function 50 -/
abbrev R09_Writer_Put_p0_t (R : Type) : Type := Oa → Int → Heap → (Oa → Int → Option R) → (Int → Option R) → Option R
def R09_Writer_Put_p0_b {R : Type} (k : Nat) (p445 : Oa) (n446 : Int) (H : Heap) (KN : Oa → Int → Option R) (KR : Int → Option R) : Option R :=
bif p445.isNone then (KR 6)
 else (hnil p445 fun p447 =>
hfad 0 p447 fun p448 =>
ldB H p448 fun t449 =>
bif (!t449) then (KR 6)
 else (KN p445 n446))
def R09_Writer_Put_p0 {R : Type} (k : Nat) (p445 : Oa) (n446 : Int) (H : Heap) (KN : Oa → Int → Option R) (KR : Int → Option R) : Option R := R09_Writer_Put_p0_b k p445 n446 H KN KR

abbrev R09_Writer_Put_p1_t (R : Type) : Type := Oa → Int → (Oa → Int → Option R) → (Int → Option R) → Option R
def R09_Writer_Put_p1_b {R : Type} (k : Nat) (p455 : Oa) (n456 : Int) (KN : Oa → Int → Option R) (KR : Int → Option R) : Option R :=
bif (n456 != 0) then (bif (n456 != 1) then (KR 1)
 else (KN p455 n456))
 else (KN p455 n456)
def R09_Writer_Put_p1 {R : Type} (k : Nat) (p455 : Oa) (n456 : Int) (KN : Oa → Int → Option R) (KR : Int → Option R) : Option R := R09_Writer_Put_p1_b k p455 n456 KN KR

abbrev R09_Writer_Put_t (R : Type) : Type := Oa → Int → Heap → (Int → Heap → Option R) → Option R

def R09_Writer_Put_b {R : Type} (R09_Writer_Put_p0 : R09_Writer_Put_p0_t R) (R09_Writer_Put_p1 : R09_Writer_Put_p1_t R) (k : Nat) (p443 : Oa) (n444 : Int) (H : Heap) (K : Int → Heap → Option R) : Option R :=
R09_Writer_Put_p0 p443 n444 H (fun p453 n454 =>
R09_Writer_Put_p1 p453 n454 (fun p460 n461 =>
hnil p460 fun p462 =>
hfad 1 p462 fun p463 =>
ldL H p463 fun q464 l465 c466 =>
hal H [.int .i64 n461] fun p467 H468 =>
happS 1 8 H468 q464 l465 c466 p467 1 fun q469 l470 c471 H472 =>
hnil p460 fun p473 =>
hfad 1 p473 fun p474 =>
hst1 H472 p474 (.slice q469 l470 c471) fun H475 =>
K 0 H475) (fun n476 =>
K n476 H)) (fun n477 =>
K n477 H)

def R09_Writer_Put {R : Type} (k : Nat) (p443 : Oa) (n444 : Int) (H : Heap) (K : Int → Heap → Option R) : Option R := R09_Writer_Put_b (R09_Writer_Put_p0 k) (R09_Writer_Put_p1 k) k p443 n444 H K

def R09_Writer_Put_Ct {R : Type} : Tab R := fun _ _ _ _ => none
def R09_Writer_Put_C (R : Type) (k : Nat) : Tab R := R09_Writer_Put_Ct
theorem R09_Writer_Put_S (R : Type) (k : Nat) : CSound Try.prog (R09_Writer_Put_C R k) := csound_nil
def R09_Writer_Put_aa0 {R : Type} (f : R09_Writer_Put_p0_t R) (n : Nat) (vals : List Value) (H : Heap) (K : Xit → Env → Heap → Option R) : Option R :=
  match vals with
  | [.pointer p445,.int .i64 n446] => f p445 n446 H (fun p1642 n1643 => K .normal [(0,.pointer p1642),(1,.int .i64 n1643)] H) (fun n1644 => K .ret [(4,.int .i64 n1644)] H)
  | _ => none
def R09_Writer_Put_a0 (R : Type) (k n : Nat) (vals : List Value) (H : Heap) (K : Xit → Env → Heap → Option R) : Option R := R09_Writer_Put_aa0 (R09_Writer_Put_p0 k) n vals H K
def R09_Writer_Put_aa1 {R : Type} (f : R09_Writer_Put_p1_t R) (n : Nat) (vals : List Value) (H : Heap) (K : Xit → Env → Heap → Option R) : Option R :=
  match vals with
  | [.pointer p455,.int .i64 n456] => f p455 n456 (fun p1645 n1646 => K .normal [(0,.pointer p1645),(1,.int .i64 n1646)] H) (fun n1647 => K .ret [(4,.int .i64 n1647)] H)
  | _ => none
def R09_Writer_Put_a1 (R : Type) (k n : Nat) (vals : List Value) (H : Heap) (K : Xit → Env → Heap → Option R) : Option R := R09_Writer_Put_aa1 (R09_Writer_Put_p1 k) n vals H K
def R09_Writer_Put_Jt {R : Type} (k : Nat) (R09_Writer_Put_p0 : R09_Writer_Put_p0_t R) (R09_Writer_Put_p1 : R09_Writer_Put_p1_t R) : JTab R := tcons 0 (R09_Writer_Put_aa0 R09_Writer_Put_p0 k) <| tcons 1 (R09_Writer_Put_aa1 R09_Writer_Put_p1 k) <| fun _ _ _ _ => none
def R09_Writer_Put_J (R : Type) (k : Nat) : JTab R := R09_Writer_Put_Jt k (R09_Writer_Put_p0 k) (R09_Writer_Put_p1 k)
def R09_Writer_Put_at : AT := (.seq (.reg [0,1] []) (.seq (.opq 0 [0,1] ⟨[0,1],[],[4]⟩ (.seq (.reg [0,1,13] []) (.cond (.seq (.reg [4] []) .leaf) .leaf))) (.seq (.opq 1 [0,1] ⟨[0,1],[],[4]⟩ (.seq (.reg [0,1,19] []) (.cond (.seq (.reg [4] []) .leaf) .leaf))) (.seq (.reg [] []) (.seq (.reg [4] []) .leaf)))))
def R09_Writer_Put_i1 : IC := (.seq (.reg [⟨some 14,.mov (.t 1),none⟩,
⟨some 15,.cmp .neq (.t 14) (.c (Go.Value.int Go.IntKind.i64 0)),none⟩,
⟨some 16,.mov (.t 15),none⟩,
⟨some 17,.mov (.t 1),some (16,true)⟩,
⟨some 18,.cmp .neq (.t 17) (.c (Go.Value.int Go.IntKind.i64 1)),some (16,true)⟩,
⟨some 19,.pick (.t 16) (.t 18) (.c (Go.Value.bool false)),none⟩] [0,1,19]) (.cond (.t 19) (.seq (.reg [⟨some 4,.mov (.c (Go.Value.int Go.IntKind.i64 1)),none⟩] [4]) .ret) .skip))
def R09_Writer_Put_i0 : IC := (.seq (.reg [⟨some 5,.mov (.t 0),none⟩,
⟨some 6,.eqnil (.t 5) false 0,none⟩,
⟨some 7,.mov (.t 6),none⟩,
⟨some 8,.mov (.t 0),some (7,false)⟩,
⟨some 9,.nilc (.t 8),some (7,false)⟩,
⟨some 10,.fad 0 (.t 9),some (7,false)⟩,
⟨some 11,.ld (.sc .bool) (.t 10),some (7,false)⟩,
⟨some 12,.lnot (.t 11),some (7,false)⟩,
⟨some 13,.pick (.t 7) (.c (Go.Value.bool true)) (.t 12),none⟩] [0,1,13]) (.cond (.t 13) (.seq (.reg [⟨some 4,.mov (.c (Go.Value.int Go.IntKind.i64 6)),none⟩] [4]) .ret) .skip))
def R09_Writer_Put_f : IFn := ⟨30,[.t 4],(.seq (.reg [⟨some 4,.mov (.c (Go.Value.int Go.IntKind.i64 0)),none⟩] [0,1]) (.seq (.opq 0 [0,1] R09_Writer_Put_i0) (.seq (.opq 1 [0,1] R09_Writer_Put_i1) (.seq (.reg [⟨some 20,.mov (.t 0),none⟩,
⟨some 21,.mov (.t 0),none⟩,
⟨some 22,.nilc (.t 21),none⟩,
⟨some 23,.fad 1 (.t 22),none⟩,
⟨some 24,.ld (.sc .slc) (.t 23),none⟩,
⟨some 25,.mov (.t 1),none⟩,
⟨some 26,.bls 1 [.int .i64 0] [(0,1,(.t 25))],none⟩,
⟨some 27,.app [.int .i64 0] 8 (.t 24) (.t 26),none⟩,
⟨some 28,.nilc (.t 20),none⟩,
⟨some 29,.fad 1 (.t 28),none⟩,
⟨none,.st 1 (.t 29) (.t 27),none⟩] []) (.seq (.reg [⟨some 4,.mov (.c (Go.Value.int Go.IntKind.i64 0)),none⟩] [4]) .ret)))))⟩
theorem R09_Writer_Put_e1 {R : Type} (R09_Writer_Put_p0 : R09_Writer_Put_p0_t R) (R09_Writer_Put_p1 : R09_Writer_Put_p1_t R) (k : Nat) (p455 : Oa) (n456 : Int) (H : Heap) (K : Xit → Env → Heap → Option R) : evJ (R09_Writer_Put_Ct) (R09_Writer_Put_Jt k R09_Writer_Put_p0 R09_Writer_Put_p1) R09_Writer_Put_i1 (List.zip [0,1] [.pointer p455,.int .i64 n456]) H (fun x e' H' => K x (clean e' ((⟨[0,1],[],[4]⟩ : Out).of x)) H') = R09_Writer_Put_p1_b k p455 n456 (fun p1645 n1646 => K .normal [(0,.pointer p1645),(1,.int .i64 n1646)] H) (fun n1647 => K .ret [(4,.int .i64 n1647)] H) := by kernel_rfl
theorem R09_Writer_Put_j1 {R : Type} (k : Nat) : JS Try.prog 30 (R09_Writer_Put_a1 R k k) [0,1] ⟨[0,1],[],[4]⟩ (sel [1,1,0] (Try.f50.body.getD .skip)) :=
  piece_ok (nt := 30) (c := (sel [1,1,0] (Try.f50.body.getD .skip))) (C := R09_Writer_Put_C R k) (an := An) (t := (.seq (.reg [0,1,19] []) (.cond (.seq (.reg [4] []) .leaf) .leaf))) (ic := R09_Writer_Put_i1) (R09_Writer_Put_S R k) (R09_Writer_Put_J R k) (by kernel_rfl) (And.intro True.intro (And.intro (And.intro True.intro True.intro) True.intro)) (R09_Writer_Put_a1 R k k)
    (fun vals H K r h => by
      unfold R09_Writer_Put_a1 R09_Writer_Put_aa1 at h
      split at h <;> first | (cases h; done) | exact Eq.trans (R09_Writer_Put_e1 (R09_Writer_Put_p0 k) (R09_Writer_Put_p1 k) k _ _ H K) h)
theorem R09_Writer_Put_e0 {R : Type} (R09_Writer_Put_p0 : R09_Writer_Put_p0_t R) (R09_Writer_Put_p1 : R09_Writer_Put_p1_t R) (k : Nat) (p445 : Oa) (n446 : Int) (H : Heap) (K : Xit → Env → Heap → Option R) : evJ (R09_Writer_Put_Ct) (R09_Writer_Put_Jt k R09_Writer_Put_p0 R09_Writer_Put_p1) R09_Writer_Put_i0 (List.zip [0,1] [.pointer p445,.int .i64 n446]) H (fun x e' H' => K x (clean e' ((⟨[0,1],[],[4]⟩ : Out).of x)) H') = R09_Writer_Put_p0_b k p445 n446 H (fun p1642 n1643 => K .normal [(0,.pointer p1642),(1,.int .i64 n1643)] H) (fun n1644 => K .ret [(4,.int .i64 n1644)] H) := by kernel_rfl
theorem R09_Writer_Put_j0 {R : Type} (k : Nat) : JS Try.prog 30 (R09_Writer_Put_a0 R k k) [0,1] ⟨[0,1],[],[4]⟩ (sel [1,0] (Try.f50.body.getD .skip)) :=
  piece_ok (nt := 30) (c := (sel [1,0] (Try.f50.body.getD .skip))) (C := R09_Writer_Put_C R k) (an := An) (t := (.seq (.reg [0,1,13] []) (.cond (.seq (.reg [4] []) .leaf) .leaf))) (ic := R09_Writer_Put_i0) (R09_Writer_Put_S R k) (R09_Writer_Put_J R k) (by kernel_rfl) (And.intro True.intro (And.intro (And.intro True.intro True.intro) True.intro)) (R09_Writer_Put_a0 R k k)
    (fun vals H K r h => by
      unfold R09_Writer_Put_a0 R09_Writer_Put_aa0 at h
      split at h <;> first | (cases h; done) | exact Eq.trans (R09_Writer_Put_e0 (R09_Writer_Put_p0 k) (R09_Writer_Put_p1 k) k _ _ H K) h)
def R09_Writer_Put_ca {R : Type} (f : R09_Writer_Put_t R) (args : List Value) (H : Heap) (K : Value → Heap → Option R) : Option R :=
  match args with
  | [.pointer p443,.int .i64 n444] => f p443 n444 H (fun n1648 H => K (.int .i64 n1648) H)
  | _ => none
def R09_Writer_Put_c (R : Type) (k : Nat) (args : List Value) (H : Heap) (K : Value → Heap → Option R) : Option R := R09_Writer_Put_ca (R09_Writer_Put k) args H K
theorem R09_Writer_Put_e {R : Type} (R09_Writer_Put_p0 : R09_Writer_Put_p0_t R) (R09_Writer_Put_p1 : R09_Writer_Put_p1_t R) (k : Nat) (p443 : Oa) (n444 : Int) (H : Heap) (K : Value → Heap → Option R) : evF (R09_Writer_Put_Ct) (R09_Writer_Put_Jt k R09_Writer_Put_p0 R09_Writer_Put_p1) R09_Writer_Put_f [.pointer p443,.int .i64 n444] H K = R09_Writer_Put_b R09_Writer_Put_p0 R09_Writer_Put_p1 k p443 n444 H (fun n1648 H => K (.int .i64 n1648) H) := by kernel_rfl
theorem R09_Writer_Put_cs (R : Type) (k : Nat) : ∀ args H K r,R09_Writer_Put_c R k args H K = some r → ∃ v H',Tri Try.prog 50 args H v H' ∧ K v H' = some r := by
  intro args H K r h
  unfold R09_Writer_Put_c R09_Writer_Put_ca at h
  split at h
  · exact evF_ok (C := R09_Writer_Put_C R k) (an := An) (t := R09_Writer_Put_at) (fn := Try.f50) (c := (Try.f50.body.getD .skip)) (ifn := R09_Writer_Put_f) (R09_Writer_Put_S R k) (R09_Writer_Put_J R k) Try.func50 (by kernel_rfl) (by kernel_rfl) (And.intro True.intro (And.intro (R09_Writer_Put_j0 k) (And.intro (R09_Writer_Put_j1 k) (And.intro True.intro (And.intro True.intro True.intro))))) rfl (Eq.trans (R09_Writer_Put_e (R09_Writer_Put_p0 k) (R09_Writer_Put_p1 k) k _ _ H K) h)
  · cases h
/-! ### R10_Tree_Encode: function 22 -/
abbrev R10_Tree_Encode_p0_t (R : Type) : Type := Oa → Oa → Int → Int → Int → Heap → (Oa → Oa → Int → Int → Int → Heap → Option R) → (Int → Heap → Option R) → Option R
def R10_Tree_Encode_p0_b {R : Type} (R09_Writer_Bits : R09_Writer_Bits_t R) (k : Nat) (p246 : Oa) (p247 : Oa) (n248 : Int) (n249 : Int) (n250 : Int) (H : Heap) (KN : Oa → Oa → Int → Int → Int → Heap → Option R) (KR : Int → Heap → Option R) : Option R :=
bif p246.isNone then (KR 6 H)
 else (hnil p246 fun p251 =>
hfad 0 p251 fun p252 =>
ldB H p252 fun t253 =>
bif (!t253) then (KR 6 H)
 else (R09_Writer_Bits p247 0 0 H fun n254 H255 =>
bif (n254 != 0) then (KR 6 H255)
 else (hnil p246 fun p256 =>
hfad 5 p256 fun p257 =>
ldB H255 p257 fun t258 =>
bif t258 then (KR 6 H255)
 else (KN p246 p247 n248 n249 n250 H255))))
def R10_Tree_Encode_p0 {R : Type} (k : Nat) (p246 : Oa) (p247 : Oa) (n248 : Int) (n249 : Int) (n250 : Int) (H : Heap) (KN : Oa → Oa → Int → Int → Int → Heap → Option R) (KR : Int → Heap → Option R) : Option R := R10_Tree_Encode_p0_b (R09_Writer_Bits k) k p246 p247 n248 n249 n250 H KN KR

abbrev R10_Tree_Encode_p1_t (R : Type) : Type := Oa → Oa → Int → Int → Int → Heap → (Oa → Oa → Int → Int → Int → Option R) → (Int → Option R) → Option R
def R10_Tree_Encode_p1_b {R : Type} (R10_Tree_leaf : R10_Tree_leaf_t R) (k : Nat) (p271 : Oa) (p272 : Oa) (n273 : Int) (n274 : Int) (n275 : Int) (H : Heap) (KN : Oa → Oa → Int → Int → Int → Option R) (KR : Int → Option R) : Option R :=
R10_Tree_leaf p271 n273 n274 H fun t276 =>
bif (!t276) then (KR 2)
 else (bif decide (n275 < 0) then (KR 2)
 else (bif decide (n275 > 65536) then (KR 2)
 else (KN p271 p272 n273 n274 n275)))
def R10_Tree_Encode_p1 {R : Type} (k : Nat) (p271 : Oa) (p272 : Oa) (n273 : Int) (n274 : Int) (n275 : Int) (H : Heap) (KN : Oa → Oa → Int → Int → Int → Option R) (KR : Int → Option R) : Option R := R10_Tree_Encode_p1_b R10_Tree_leaf k p271 p272 n273 n274 n275 H KN KR

abbrev R10_Tree_Encode_p2_t (R : Type) : Type := Oa → Oa → Int → Int → Int → Heap → (Oa → Oa → Int → Int → Int → Heap → Option R) → Option R
def R10_Tree_Encode_p2_b {R : Type} (R10_Tree_minima : R10_Tree_minima_t R) (k : Nat) (p288 : Oa) (p289 : Oa) (n290 : Int) (n291 : Int) (n292 : Int) (H : Heap) (KN : Oa → Oa → Int → Int → Int → Heap → Option R) : Option R :=
hnil p288 fun p293 =>
hfad 4 p293 fun p294 =>
ldB H p294 fun t295 =>
bif (!t295) then (R10_Tree_minima p288 H fun H296 =>
hnil p288 fun p297 =>
hfad 4 p297 fun p298 =>
hst1 H296 p298 (.bool true) fun H299 =>
KN p288 p289 n290 n291 n292 H299)
 else (KN p288 p289 n290 n291 n292 H)
def R10_Tree_Encode_p2 {R : Type} (k : Nat) (p288 : Oa) (p289 : Oa) (n290 : Int) (n291 : Int) (n292 : Int) (H : Heap) (KN : Oa → Oa → Int → Int → Int → Heap → Option R) : Option R := R10_Tree_Encode_p2_b (R10_Tree_minima k) k p288 p289 n290 n291 n292 H KN

abbrev R10_Tree_Encode_p5_t (R : Type) : Type := Oa → Oa → Int → Int → Oa → Oa → Nat → Nat → Int → Int → Heap → (Oa → Oa → Int → Int → Oa → Oa → Nat → Nat → Int → Int → Option R) → (Oa → Oa → Int → Int → Oa → Oa → Nat → Nat → Int → Int → Option R) → Option R
def R10_Tree_Encode_p5_b {R : Type} (k : Nat) (p352 : Oa) (p353 : Oa) (n354 : Int) (n355 : Int) (p356 : Oa) (q357 : Oa) (l358 : Nat) (c359 : Nat) (n360 : Int) (n361 : Int) (H : Heap) (KE2 : Oa → Oa → Int → Int → Oa → Oa → Nat → Nat → Int → Int → Option R) (KN : Oa → Oa → Int → Int → Oa → Oa → Nat → Nat → Int → Int → Option R) : Option R :=
hfad 1 p356 fun p362 =>
ldI .i64 H p362 fun n363 =>
bif decide (n363 < n354) then (hfad 2 p356 fun p364 =>
ldB H p364 fun t365 =>
bif (!t365) then (KN p352 p353 n354 n355 p356 q357 l358 c359 n360 n361)
 else (KE2 p352 p353 n354 n355 p356 q357 l358 c359 n360 n361))
 else (KE2 p352 p353 n354 n355 p356 q357 l358 c359 n360 n361)
def R10_Tree_Encode_p5 {R : Type} (k : Nat) (p352 : Oa) (p353 : Oa) (n354 : Int) (n355 : Int) (p356 : Oa) (q357 : Oa) (l358 : Nat) (c359 : Nat) (n360 : Int) (n361 : Int) (H : Heap) (KE2 : Oa → Oa → Int → Int → Oa → Oa → Nat → Nat → Int → Int → Option R) (KN : Oa → Oa → Int → Int → Oa → Oa → Nat → Nat → Int → Int → Option R) : Option R := R10_Tree_Encode_p5_b k p352 p353 n354 n355 p356 q357 l358 c359 n360 n361 H KE2 KN

abbrev R10_Tree_Encode_l4_t (R : Type) : Type := (Oa → Oa → Int → Int → Oa → Oa → Nat → Nat → Int → Int → Heap → Option R) → Nat → Oa → Oa → Int → Int → Oa → Oa → Nat → Nat → Int → Int → Heap → Option R
def R10_Tree_Encode_l4_b {R : Type} (R10_Tree_Encode_p5 : R10_Tree_Encode_p5_t R) (R09_Writer_Put : R09_Writer_Put_t R) (rec : Oa → Oa → Int → Int → Oa → Oa → Nat → Nat → Int → Int → Heap → Option R) (KE2 : Oa → Oa → Int → Int → Oa → Oa → Nat → Nat → Int → Int → Heap → Option R) (k : Nat) (p342 : Oa) (p343 : Oa) (n344 : Int) (n345 : Int) (p346 : Oa) (q347 : Oa) (l348 : Nat) (c349 : Nat) (n350 : Int) (n351 : Int) (H : Heap) : Option R :=
R10_Tree_Encode_p5 p342 p343 n344 n345 p346 q347 l348 c349 n350 n351 H (fun p386 p387 n388 n389 p390 q391 l392 c393 n394 n395 =>
KE2 p386 p387 n388 n389 p390 q391 l392 c393 n394 n395 H) (fun p396 p397 n398 n399 p400 q401 l402 c403 n404 n405 =>
hfad 0 p400 fun p406 =>
ldI .i64 H p406 fun n407 =>
hfad 1 p400 fun p408 =>
ldI .i64 H p408 fun n409 =>
bif (n407 == n409) then (R09_Writer_Put p397 1 H fun n410 H411 =>
hfad 2 p400 fun p412 =>
hst1 H411 p412 (.bool true) fun H413 =>
rec p396 p397 n398 n399 p400 q401 l402 c403 n404 n405 H413)
 else (R09_Writer_Put p397 0 H fun n414 H415 =>
hfad 1 p400 fun p416 =>
ldI .i64 H415 p416 fun n417 =>
hfad 1 p400 fun p418 =>
hst1 H415 p418 (.int .i64 (IntKind.wrap .i64 (n417 + 1))) fun H419 =>
rec p396 p397 n398 n399 p400 q401 l402 c403 n404 n405 H419))
def R10_Tree_Encode_l4 {R : Type} (k : Nat) (KE2 : Oa → Oa → Int → Int → Oa → Oa → Nat → Nat → Int → Int → Heap → Option R) : Nat → Oa → Oa → Int → Int → Oa → Oa → Nat → Nat → Int → Int → Heap → Option R
  | 0,_,_,_,_,_,_,_,_,_,_,_ => none
  | n + 1,p342,p343,n344,n345,p346,q347,l348,c349,n350,n351,H => R10_Tree_Encode_l4_b (R10_Tree_Encode_p5 k) (R09_Writer_Put k) (R10_Tree_Encode_l4 k KE2 n) KE2 k p342 p343 n344 n345 p346 q347 l348 c349 n350 n351 H

abbrev R10_Tree_Encode_l3_t (R : Type) : Type := (Heap → Option R) → Nat → Oa → Oa → Int → Int → Oa → Nat → Nat → Int → Int → Heap → Option R
def R10_Tree_Encode_l3_b {R : Type} (R10_Tree_Encode_l4 : R10_Tree_Encode_l4_t R) (rec : Oa → Oa → Int → Int → Oa → Nat → Nat → Int → Int → Heap → Option R) (KE0 : Heap → Option R) (k : Nat) (p315 : Oa) (p316 : Oa) (n317 : Int) (n318 : Int) (q319 : Oa) (l320 : Nat) (c321 : Nat) (n322 : Int) (n323 : Int) (H : Heap) : Option R :=
bif decide (n323 < n322) then (hidx q319 l320 n323 1 fun p324 =>
ldI .i64 H p324 fun n325 =>
hnil p315 fun p326 =>
hfad 3 p326 fun p327 =>
ldL H p327 fun q328 l329 c330 =>
hidx q328 l329 n325 3 fun p331 =>
ldI .i64 H (pad p331 0) fun n332 =>
ldI .i64 H (pad p331 1) fun n333 =>
ldB H (pad p331 2) fun t334 =>
hal H [.int .i64 0,.int .i64 0,.bool false] fun p335 H336 =>
hst H336 p335 [.int .i64 n332,.int .i64 n333,.bool t334] fun H337 =>
hfad 1 p335 fun p338 =>
ldI .i64 H337 p338 fun n339 =>
hfad 1 p335 fun p340 =>
hst1 H337 p340 (.int .i64 (imx n339 n318)) fun H341 =>
R10_Tree_Encode_l4 (fun p430 p431 n432 n433 p434 q435 l436 c437 n438 n439 H440 =>
hnil p430 fun p441 =>
hfad 3 p441 fun p442 =>
ldL H440 p442 fun q443 l444 c445 =>
ldI .i64 H440 (pad p434 0) fun n446 =>
ldI .i64 H440 (pad p434 1) fun n447 =>
ldB H440 (pad p434 2) fun t448 =>
hidx q443 l444 n433 3 fun p449 =>
hst H440 p449 [.int .i64 n446,.int .i64 n447,.bool t448] fun H450 =>
hfad 1 p434 fun p451 =>
ldI .i64 H450 p451 fun n452 =>
rec p430 p431 n432 n452 q435 l436 c437 n438 (IntKind.wrap .i64 (n439 + 1)) H450) k p315 p316 n317 n325 p335 q319 l320 c321 n322 n323 H341)
 else (KE0 H)
def R10_Tree_Encode_l3 {R : Type} (k : Nat) (KE0 : Heap → Option R) : Nat → Oa → Oa → Int → Int → Oa → Nat → Nat → Int → Int → Heap → Option R
  | 0,_,_,_,_,_,_,_,_,_,_ => none
  | n + 1,p315,p316,n317,n318,q319,l320,c321,n322,n323,H => R10_Tree_Encode_l3_b (R10_Tree_Encode_l4 k) (R10_Tree_Encode_l3 k KE0 n) KE0 k p315 p316 n317 n318 q319 l320 c321 n322 n323 H

abbrev R10_Tree_Encode_t (R : Type) : Type := Oa → Oa → Int → Int → Int → Heap → (Int → Heap → Option R) → Option R

def R10_Tree_Encode_b {R : Type} (R10_Tree_Encode_p0 : R10_Tree_Encode_p0_t R) (R10_Tree_Encode_p1 : R10_Tree_Encode_p1_t R) (R10_Tree_Encode_p2 : R10_Tree_Encode_p2_t R) (R10_Tree_path : R10_Tree_path_t R) (R10_Tree_Encode_l3 : R10_Tree_Encode_l3_t R) (k : Nat) (p241 : Oa) (p242 : Oa) (n243 : Int) (n244 : Int) (n245 : Int) (H : Heap) (K : Int → Heap → Option R) : Option R :=
R10_Tree_Encode_p0 p241 p242 n243 n244 n245 H (fun p265 p266 n267 n268 n269 H270 =>
R10_Tree_Encode_p1 p265 p266 n267 n268 n269 H270 (fun p283 p284 n285 n286 n287 =>
R10_Tree_Encode_p2 p283 p284 n285 n286 n287 H270 (fun p305 p306 n307 n308 n309 H310 =>
R10_Tree_path p305 n307 n308 H310 fun q311 l312 c313 H314 =>
R10_Tree_Encode_l3 (fun H453 =>
K 0 H453) k p305 p306 n309 0 q311 l312 c313 ((l312 : Nat) : Int) 0 H314)) (fun n454 =>
K n454 H270)) (fun n455 H456 =>
K n455 H456)

def R10_Tree_Encode {R : Type} (k : Nat) (p241 : Oa) (p242 : Oa) (n243 : Int) (n244 : Int) (n245 : Int) (H : Heap) (K : Int → Heap → Option R) : Option R := R10_Tree_Encode_b (R10_Tree_Encode_p0 k) (R10_Tree_Encode_p1 k) (R10_Tree_Encode_p2 k) (R10_Tree_path k) (R10_Tree_Encode_l3 k) k p241 p242 n243 n244 n245 H K

def R10_Tree_Encode_Ct {R : Type} (R09_Writer_Bits : R09_Writer_Bits_t R) (R10_Tree_leaf : R10_Tree_leaf_t R) (R10_Tree_minima : R10_Tree_minima_t R) (R10_Tree_path : R10_Tree_path_t R) (R09_Writer_Put : R09_Writer_Put_t R) : Tab R := tcons 47 (R09_Writer_Bits_ca R09_Writer_Bits) <| tcons 41 (R10_Tree_leaf_ca R10_Tree_leaf) <| tcons 48 (R10_Tree_minima_ca R10_Tree_minima) <| tcons 49 (R10_Tree_path_ca R10_Tree_path) <| tcons 50 (R09_Writer_Put_ca R09_Writer_Put) <| fun _ _ _ _ => none
def R10_Tree_Encode_C (R : Type) (k : Nat) : Tab R := R10_Tree_Encode_Ct (R09_Writer_Bits k) R10_Tree_leaf (R10_Tree_minima k) (R10_Tree_path k) (R09_Writer_Put k)
theorem R10_Tree_Encode_S (R : Type) (k : Nat) : CSound Try.prog (R10_Tree_Encode_C R k) := csound_cons (R09_Writer_Bits_cs R k) <| csound_cons (R10_Tree_leaf_cs R k) <| csound_cons (R10_Tree_minima_cs R k) <| csound_cons (R10_Tree_path_cs R k) <| csound_cons (R09_Writer_Put_cs R k) <| csound_nil
def R10_Tree_Encode_aa0 {R : Type} (f : R10_Tree_Encode_p0_t R) (n : Nat) (vals : List Value) (H : Heap) (K : Xit → Env → Heap → Option R) : Option R :=
  match vals with
  | [.pointer p246,.pointer p247,.int .i64 n248,.int .i64 n249,.int .i64 n250] => f p246 p247 n248 n249 n250 H (fun p1649 p1650 n1651 n1652 n1653 H => K .normal [(0,.pointer p1649),(1,.pointer p1650),(2,.int .i64 n1651),(3,.int .i64 n1652),(4,.int .i64 n1653)] H) (fun n1654 H => K .ret [(10,.int .i64 n1654)] H)
  | _ => none
def R10_Tree_Encode_a0 (R : Type) (k n : Nat) (vals : List Value) (H : Heap) (K : Xit → Env → Heap → Option R) : Option R := R10_Tree_Encode_aa0 (R10_Tree_Encode_p0 k) n vals H K
def R10_Tree_Encode_aa1 {R : Type} (f : R10_Tree_Encode_p1_t R) (n : Nat) (vals : List Value) (H : Heap) (K : Xit → Env → Heap → Option R) : Option R :=
  match vals with
  | [.pointer p271,.pointer p272,.int .i64 n273,.int .i64 n274,.int .i64 n275] => f p271 p272 n273 n274 n275 H (fun p1655 p1656 n1657 n1658 n1659 => K .normal [(0,.pointer p1655),(1,.pointer p1656),(2,.int .i64 n1657),(3,.int .i64 n1658),(4,.int .i64 n1659)] H) (fun n1660 => K .ret [(10,.int .i64 n1660)] H)
  | _ => none
def R10_Tree_Encode_a1 (R : Type) (k n : Nat) (vals : List Value) (H : Heap) (K : Xit → Env → Heap → Option R) : Option R := R10_Tree_Encode_aa1 (R10_Tree_Encode_p1 k) n vals H K
def R10_Tree_Encode_aa2 {R : Type} (f : R10_Tree_Encode_p2_t R) (n : Nat) (vals : List Value) (H : Heap) (K : Xit → Env → Heap → Option R) : Option R :=
  match vals with
  | [.pointer p288,.pointer p289,.int .i64 n290,.int .i64 n291,.int .i64 n292] => f p288 p289 n290 n291 n292 H (fun p1661 p1662 n1663 n1664 n1665 H => K .normal [(0,.pointer p1661),(1,.pointer p1662),(2,.int .i64 n1663),(3,.int .i64 n1664),(4,.int .i64 n1665)] H)
  | _ => none
def R10_Tree_Encode_a2 (R : Type) (k n : Nat) (vals : List Value) (H : Heap) (K : Xit → Env → Heap → Option R) : Option R := R10_Tree_Encode_aa2 (R10_Tree_Encode_p2 k) n vals H K
def R10_Tree_Encode_aa3 {R : Type} (f : R10_Tree_Encode_l3_t R) (n : Nat) (vals : List Value) (H : Heap) (K : Xit → Env → Heap → Option R) : Option R :=
  match vals with
  | [.pointer p315,.pointer p316,.int .i64 n317,.int .i64 n318,.slice q319 l320 c321,.int .i64 n322,.int .i64 n323] => f (fun H => K (.exit 0) [] H) n p315 p316 n317 n318 q319 l320 c321 n322 n323 H
  | _ => none
def R10_Tree_Encode_a3 (R : Type) (k n : Nat) (vals : List Value) (H : Heap) (K : Xit → Env → Heap → Option R) : Option R := R10_Tree_Encode_aa3 (R10_Tree_Encode_l3 k) n vals H K
def R10_Tree_Encode_aa4 {R : Type} (f : R10_Tree_Encode_l4_t R) (n : Nat) (vals : List Value) (H : Heap) (K : Xit → Env → Heap → Option R) : Option R :=
  match vals with
  | [.pointer p342,.pointer p343,.int .i64 n344,.int .i64 n345,.pointer p346,.slice q347 l348 c349,.int .i64 n350,.int .i64 n351] => f (fun p1666 p1667 n1668 n1669 p1670 q1671 l1672 c1673 n1674 n1675 H => K (.exit 2) [(0,.pointer p1666),(1,.pointer p1667),(4,.int .i64 n1668),(13,.int .i64 n1669),(14,.pointer p1670),(61,.slice q1671 l1672 c1673),(62,.int .i64 n1674),(63,.int .i64 n1675)] H) n p342 p343 n344 n345 p346 q347 l348 c349 n350 n351 H
  | _ => none
def R10_Tree_Encode_a4 (R : Type) (k n : Nat) (vals : List Value) (H : Heap) (K : Xit → Env → Heap → Option R) : Option R := R10_Tree_Encode_aa4 (R10_Tree_Encode_l4 k) n vals H K
def R10_Tree_Encode_aa5 {R : Type} (f : R10_Tree_Encode_p5_t R) (n : Nat) (vals : List Value) (H : Heap) (K : Xit → Env → Heap → Option R) : Option R :=
  match vals with
  | [.pointer p352,.pointer p353,.int .i64 n354,.int .i64 n355,.pointer p356,.slice q357 l358 c359,.int .i64 n360,.int .i64 n361] => f p352 p353 n354 n355 p356 q357 l358 c359 n360 n361 H (fun p1676 p1677 n1678 n1679 p1680 q1681 l1682 c1683 n1684 n1685 => K (.exit 2) [(0,.pointer p1676),(1,.pointer p1677),(4,.int .i64 n1678),(13,.int .i64 n1679),(14,.pointer p1680),(61,.slice q1681 l1682 c1683),(62,.int .i64 n1684),(63,.int .i64 n1685)] H) (fun p1686 p1687 n1688 n1689 p1690 q1691 l1692 c1693 n1694 n1695 => K .normal [(0,.pointer p1686),(1,.pointer p1687),(4,.int .i64 n1688),(13,.int .i64 n1689),(14,.pointer p1690),(61,.slice q1691 l1692 c1693),(62,.int .i64 n1694),(63,.int .i64 n1695)] H)
  | _ => none
def R10_Tree_Encode_a5 (R : Type) (k n : Nat) (vals : List Value) (H : Heap) (K : Xit → Env → Heap → Option R) : Option R := R10_Tree_Encode_aa5 (R10_Tree_Encode_p5 k) n vals H K
def R10_Tree_Encode_Jt {R : Type} (k : Nat) (R10_Tree_Encode_p0 : R10_Tree_Encode_p0_t R) (R10_Tree_Encode_p1 : R10_Tree_Encode_p1_t R) (R10_Tree_Encode_p2 : R10_Tree_Encode_p2_t R) (R10_Tree_Encode_l3 : R10_Tree_Encode_l3_t R) (R10_Tree_Encode_l4 : R10_Tree_Encode_l4_t R) (R10_Tree_Encode_p5 : R10_Tree_Encode_p5_t R) : JTab R := tcons 0 (R10_Tree_Encode_aa0 R10_Tree_Encode_p0 k) <| tcons 1 (R10_Tree_Encode_aa1 R10_Tree_Encode_p1 k) <| tcons 2 (R10_Tree_Encode_aa2 R10_Tree_Encode_p2 k) <| tcons 3 (R10_Tree_Encode_aa3 R10_Tree_Encode_l3 k) <| tcons 4 (R10_Tree_Encode_aa4 R10_Tree_Encode_l4 k) <| tcons 5 (R10_Tree_Encode_aa5 R10_Tree_Encode_p5 k) <| fun _ _ _ _ => none
def R10_Tree_Encode_J (R : Type) (k : Nat) : JTab R := R10_Tree_Encode_Jt k (R10_Tree_Encode_p0 k) (R10_Tree_Encode_p1 k) (R10_Tree_Encode_p2 k) (R10_Tree_Encode_l3 k) (R10_Tree_Encode_l4 k) (R10_Tree_Encode_p5 k)
def R10_Tree_Encode_at : AT := (.seq (.reg [0,1,2,3,4] []) (.seq (.opq 0 [0,1,2,3,4] ⟨[0,1,2,3,4],[],[10]⟩ (.seq (.reg [0,1,2,3,4,34] []) (.cond (.seq (.reg [10] []) .leaf) .leaf))) (.seq (.opq 1 [0,1,2,3,4] ⟨[0,1,2,3,4],[],[10]⟩ (.seq (.reg [0,1,2,3,4,47] []) (.cond (.seq (.reg [10] []) .leaf) .leaf))) (.seq (.opq 2 [0,1,2,3,4] ⟨[0,1,2,3,4],[],[]⟩ (.seq (.reg [0,1,2,3,4,52] []) (.cond (.seq (.reg [0,1,2,3,4] []) (.reg [0,1,2,3,4] [])) .leaf))) (.seq (.reg [0,1,2,3,4,11] []) (.seq (.seq (.reg [0,1,4,11,61,62,63] []) (.node (.opq 3 [0,1,4,11,61,62,63] ⟨[],[(0,[])],[]⟩ (.node (.seq (.reg [0,1,4,11,61,62,63,64] []) (.seq (.cond .leaf .leaf) (.seq (.node (.seq (.reg [0,1,4,11,13,61,62,63] []) (.seq (.reg [0,1,4,11,13,14,61,62,63] []) (.seq (.reg [0,1,4,13,14,61,62,63] []) (.seq (.node (.opq 4 [0,1,4,13,14,61,62,63] ⟨[],[(2,[0,1,4,13,14,61,62,63])],[]⟩ (.node (.seq (.opq 5 [0,1,4,13,14,61,62,63] ⟨[0,1,4,13,14,61,62,63],[(2,[0,1,4,13,14,61,62,63])],[]⟩ (.seq (.reg [0,1,4,13,14,61,62,63,87] []) (.cond .leaf .leaf))) (.node (.seq (.reg [0,1,4,13,14,61,62,63,92] []) (.cond (.seq (.reg [0,1,4,13,14,61,62,63] []) (.reg [0,1,4,13,14,61,62,63] [])) (.seq (.reg [0,1,4,13,14,61,62,63] []) (.reg [0,1,4,13,14,61,62,63] []))))))))) (.seq (.reg [0,1,4,14,61,62,63] [[],[0],[0,1],[0,1,2],[],[],[0,1,2,3,4,5],[0,1,2,3,4,5,6]]) (.reg [0,1,4,11,61,62,63] []))))))) (.reg [0,1,4,11,61,62,63] [])))))))) (.seq (.reg [10] []) .leaf)))))))
def R10_Tree_Encode_i5 : IC := (.seq (.reg [⟨some 79,.fad 1 (.t 14),none⟩,
⟨some 80,.ld (.sc (.int .i64)) (.t 79),none⟩,
⟨some 81,.mov (.t 4),none⟩,
⟨some 82,.cmp .lss (.t 80) (.t 81),none⟩,
⟨some 83,.mov (.t 82),none⟩,
⟨some 84,.fad 2 (.t 14),some (83,true)⟩,
⟨some 85,.ld (.sc .bool) (.t 84),some (83,true)⟩,
⟨some 86,.lnot (.t 85),some (83,true)⟩,
⟨some 87,.pick (.t 83) (.t 86) (.c (Go.Value.bool false)),none⟩] [0,1,4,13,14,61,62,63,87]) (.cond (.t 87) .skip (.exit 2)))
def R10_Tree_Encode_i4 : IC := (.seq (.opq 5 [0,1,4,13,14,61,62,63] R10_Tree_Encode_i5) (.block 3 (.seq (.reg [⟨some 88,.fad 0 (.t 14),none⟩,
⟨some 89,.ld (.sc (.int .i64)) (.t 88),none⟩,
⟨some 90,.fad 1 (.t 14),none⟩,
⟨some 91,.ld (.sc (.int .i64)) (.t 90),none⟩,
⟨some 92,.cmp .eql (.t 89) (.t 91),none⟩] [0,1,4,13,14,61,62,63,92]) (.cond (.t 92) (.seq (.reg [⟨some 93,.mov (.t 1),none⟩,
⟨some 94,.call 50 [(.t 93),(.c (Go.Value.int Go.IntKind.i64 1))] (.one (.sc (.int .i64))),none⟩] [0,1,4,13,14,61,62,63]) (.reg [⟨some 95,.fad 2 (.t 14),none⟩,
⟨none,.st 1 (.t 95) (.c (Go.Value.bool true)),none⟩] [0,1,4,13,14,61,62,63])) (.seq (.reg [⟨some 96,.mov (.t 1),none⟩,
⟨some 97,.call 50 [(.t 96),(.c (Go.Value.int Go.IntKind.i64 0))] (.one (.sc (.int .i64))),none⟩] [0,1,4,13,14,61,62,63]) (.reg [⟨some 98,.fad 1 (.t 14),none⟩,
⟨some 99,.ld (.sc (.int .i64)) (.t 98),none⟩,
⟨some 100,.bin .add .i64 (.t 99) (.c (Go.Value.int Go.IntKind.i64 1)),none⟩,
⟨some 101,.fad 1 (.t 14),none⟩,
⟨none,.st 1 (.t 101) (.t 100),none⟩] [0,1,4,13,14,61,62,63]))))))
def R10_Tree_Encode_i3 : IC := (.seq (.reg [⟨some 64,.cmp .lss (.t 63) (.t 62),none⟩] [0,1,4,11,61,62,63,64]) (.seq (.cond (.t 64) .skip (.exit 0)) (.seq (.block 1 (.seq (.reg [⟨some 65,.ids 1 (.t 61) (.t 63),none⟩,
⟨some 66,.ld (.sc (.int .i64)) (.t 65),none⟩,
⟨some 13,.mov (.t 66),none⟩] [0,1,4,11,13,61,62,63]) (.seq (.reg [⟨some 67,.mov (.t 0),none⟩,
⟨some 68,.nilc (.t 67),none⟩,
⟨some 69,.fad 3 (.t 68),none⟩,
⟨some 70,.ld (.sc .slc) (.t 69),none⟩,
⟨some 71,.mov (.t 13),none⟩,
⟨some 72,.ids 3 (.t 70) (.t 71),none⟩,
⟨some 73,.ld (.agg [(.int .i64),(.int .i64),.bool]) (.t 72),none⟩,
⟨some 14,.alc [.int .i64 0,.int .i64 0,.bool false],none⟩,
⟨none,.st 3 (.t 14) (.t 73),none⟩] [0,1,4,11,13,14,61,62,63]) (.seq (.reg [⟨some 74,.fad 1 (.t 14),none⟩,
⟨some 75,.ld (.sc (.int .i64)) (.t 74),none⟩,
⟨some 76,.mov (.t 11),none⟩,
⟨some 77,.mx (.t 75) (.t 76),none⟩,
⟨some 78,.fad 1 (.t 14),none⟩,
⟨none,.st 1 (.t 78) (.t 77),none⟩] [0,1,4,13,14,61,62,63]) (.seq (.block 2 (.opq 4 [0,1,4,13,14,61,62,63] (.loop R10_Tree_Encode_i4))) (.seq (.reg [⟨some 102,.mov (.t 0),none⟩,
⟨some 103,.nilc (.t 102),none⟩,
⟨some 104,.fad 3 (.t 103),none⟩,
⟨some 105,.ld (.sc .slc) (.t 104),none⟩,
⟨some 106,.mov (.t 13),none⟩,
⟨some 107,.ld (.agg [(.int .i64),(.int .i64),.bool]) (.t 14),none⟩,
⟨some 108,.ids 3 (.t 105) (.t 106),none⟩,
⟨none,.st 3 (.t 108) (.t 107),none⟩] [0,1,4,14,61,62,63]) (.reg [⟨some 109,.fad 1 (.t 14),none⟩,
⟨some 110,.ld (.sc (.int .i64)) (.t 109),none⟩,
⟨some 11,.mov (.t 110),none⟩] [0,1,4,11,61,62,63]))))))) (.reg [⟨some 111,.bin .add .i64 (.t 63) (.c (Go.Value.int Go.IntKind.i64 1)),none⟩,
⟨some 63,.mov (.t 111),none⟩] [0,1,4,11,61,62,63]))))
def R10_Tree_Encode_i2 : IC := (.seq (.reg [⟨some 48,.mov (.t 0),none⟩,
⟨some 49,.nilc (.t 48),none⟩,
⟨some 50,.fad 4 (.t 49),none⟩,
⟨some 51,.ld (.sc .bool) (.t 50),none⟩,
⟨some 52,.lnot (.t 51),none⟩] [0,1,2,3,4,52]) (.cond (.t 52) (.seq (.reg [⟨some 53,.mov (.t 0),none⟩,
⟨some 54,.call 48 [(.t 53)] .none,none⟩] [0,1,2,3,4]) (.reg [⟨some 55,.mov (.t 0),none⟩,
⟨some 56,.nilc (.t 55),none⟩,
⟨some 57,.fad 4 (.t 56),none⟩,
⟨none,.st 1 (.t 57) (.c (Go.Value.bool true)),none⟩] [0,1,2,3,4])) .skip))
def R10_Tree_Encode_i1 : IC := (.seq (.reg [⟨some 35,.mov (.t 0),none⟩,
⟨some 36,.mov (.t 2),none⟩,
⟨some 37,.mov (.t 3),none⟩,
⟨some 38,.call 41 [(.t 35),(.t 36),(.t 37)] (.one (.sc .bool)),none⟩,
⟨some 39,.lnot (.t 38),none⟩,
⟨some 40,.mov (.t 39),none⟩,
⟨some 41,.mov (.t 4),some (40,false)⟩,
⟨some 42,.cmp .lss (.t 41) (.c (Go.Value.int Go.IntKind.i64 0)),some (40,false)⟩,
⟨some 43,.pick (.t 40) (.c (Go.Value.bool true)) (.t 42),none⟩,
⟨some 44,.mov (.t 43),none⟩,
⟨some 45,.mov (.t 4),some (44,false)⟩,
⟨some 46,.cmp .gtr (.t 45) (.c (Go.Value.int Go.IntKind.i64 65536)),some (44,false)⟩,
⟨some 47,.pick (.t 44) (.c (Go.Value.bool true)) (.t 46),none⟩] [0,1,2,3,4,47]) (.cond (.t 47) (.seq (.reg [⟨some 10,.mov (.c (Go.Value.int Go.IntKind.i64 2)),none⟩] [10]) .ret) .skip))
def R10_Tree_Encode_i0 : IC := (.seq (.reg [⟨some 15,.mov (.t 0),none⟩,
⟨some 16,.eqnil (.t 15) false 0,none⟩,
⟨some 17,.mov (.t 16),none⟩,
⟨some 18,.mov (.t 0),some (17,false)⟩,
⟨some 19,.nilc (.t 18),some (17,false)⟩,
⟨some 20,.fad 0 (.t 19),some (17,false)⟩,
⟨some 21,.ld (.sc .bool) (.t 20),some (17,false)⟩,
⟨some 22,.lnot (.t 21),some (17,false)⟩,
⟨some 23,.pick (.t 17) (.c (Go.Value.bool true)) (.t 22),none⟩,
⟨some 24,.mov (.t 23),none⟩,
⟨some 25,.mov (.t 1),some (24,false)⟩,
⟨some 26,.call 47 [(.t 25),(.c (Go.Value.int Go.IntKind.i64 0)),(.c (Go.Value.int Go.IntKind.i64 0))] (.one (.sc (.int .i64))),some (24,false)⟩,
⟨some 27,.cmp .neq (.t 26) (.c (Go.Value.int Go.IntKind.i64 0)),some (24,false)⟩,
⟨some 28,.pick (.t 24) (.c (Go.Value.bool true)) (.t 27),none⟩,
⟨some 29,.mov (.t 28),none⟩,
⟨some 30,.mov (.t 0),some (29,false)⟩,
⟨some 31,.nilc (.t 30),some (29,false)⟩,
⟨some 32,.fad 5 (.t 31),some (29,false)⟩,
⟨some 33,.ld (.sc .bool) (.t 32),some (29,false)⟩,
⟨some 34,.pick (.t 29) (.c (Go.Value.bool true)) (.t 33),none⟩] [0,1,2,3,4,34]) (.cond (.t 34) (.seq (.reg [⟨some 10,.mov (.c (Go.Value.int Go.IntKind.i64 6)),none⟩] [10]) .ret) .skip))
def R10_Tree_Encode_f : IFn := ⟨112,[.t 10],(.seq (.reg [⟨some 10,.mov (.c (Go.Value.int Go.IntKind.i64 0)),none⟩] [0,1,2,3,4]) (.seq (.opq 0 [0,1,2,3,4] R10_Tree_Encode_i0) (.seq (.opq 1 [0,1,2,3,4] R10_Tree_Encode_i1) (.seq (.opq 2 [0,1,2,3,4] R10_Tree_Encode_i2) (.seq (.reg [⟨some 11,.mov (.c (Go.Value.int Go.IntKind.i64 0)),none⟩] [0,1,2,3,4,11]) (.seq (.seq (.reg [⟨some 58,.mov (.t 0),none⟩,
⟨some 59,.mov (.t 2),none⟩,
⟨some 60,.mov (.t 3),none⟩,
⟨some 61,.call 49 [(.t 58),(.t 59),(.t 60)] (.one (.sc .slc)),none⟩,
⟨some 62,.len false (.t 61),none⟩,
⟨some 63,.mov (.c (Go.Value.int Go.IntKind.i64 0)),none⟩] [0,1,4,11,61,62,63]) (.block 0 (.opq 3 [0,1,4,11,61,62,63] (.loop R10_Tree_Encode_i3)))) (.seq (.reg [⟨some 10,.mov (.c (Go.Value.int Go.IntKind.i64 0)),none⟩] [10]) .ret)))))))⟩
theorem R10_Tree_Encode_e5 {R : Type} (R09_Writer_Bits : R09_Writer_Bits_t R) (R10_Tree_leaf : R10_Tree_leaf_t R) (R10_Tree_minima : R10_Tree_minima_t R) (R10_Tree_path : R10_Tree_path_t R) (R09_Writer_Put : R09_Writer_Put_t R) (R10_Tree_Encode_p0 : R10_Tree_Encode_p0_t R) (R10_Tree_Encode_p1 : R10_Tree_Encode_p1_t R) (R10_Tree_Encode_p2 : R10_Tree_Encode_p2_t R) (R10_Tree_Encode_l3 : R10_Tree_Encode_l3_t R) (R10_Tree_Encode_l4 : R10_Tree_Encode_l4_t R) (R10_Tree_Encode_p5 : R10_Tree_Encode_p5_t R) (k : Nat) (p352 : Oa) (p353 : Oa) (n354 : Int) (n355 : Int) (p356 : Oa) (q357 : Oa) (l358 : Nat) (c359 : Nat) (n360 : Int) (n361 : Int) (H : Heap) (K : Xit → Env → Heap → Option R) : evJ (R10_Tree_Encode_Ct R09_Writer_Bits R10_Tree_leaf R10_Tree_minima R10_Tree_path R09_Writer_Put) (R10_Tree_Encode_Jt k R10_Tree_Encode_p0 R10_Tree_Encode_p1 R10_Tree_Encode_p2 R10_Tree_Encode_l3 R10_Tree_Encode_l4 R10_Tree_Encode_p5) R10_Tree_Encode_i5 (List.zip [0,1,4,13,14,61,62,63] [.pointer p352,.pointer p353,.int .i64 n354,.int .i64 n355,.pointer p356,.slice q357 l358 c359,.int .i64 n360,.int .i64 n361]) H (fun x e' H' => K x (clean e' ((⟨[0,1,4,13,14,61,62,63],[(2,[0,1,4,13,14,61,62,63])],[]⟩ : Out).of x)) H') = R10_Tree_Encode_p5_b k p352 p353 n354 n355 p356 q357 l358 c359 n360 n361 H (fun p1676 p1677 n1678 n1679 p1680 q1681 l1682 c1683 n1684 n1685 => K (.exit 2) [(0,.pointer p1676),(1,.pointer p1677),(4,.int .i64 n1678),(13,.int .i64 n1679),(14,.pointer p1680),(61,.slice q1681 l1682 c1683),(62,.int .i64 n1684),(63,.int .i64 n1685)] H) (fun p1686 p1687 n1688 n1689 p1690 q1691 l1692 c1693 n1694 n1695 => K .normal [(0,.pointer p1686),(1,.pointer p1687),(4,.int .i64 n1688),(13,.int .i64 n1689),(14,.pointer p1690),(61,.slice q1691 l1692 c1693),(62,.int .i64 n1694),(63,.int .i64 n1695)] H) := by kernel_rfl
theorem R10_Tree_Encode_j5 {R : Type} (k : Nat) : JS Try.prog 112 (R10_Tree_Encode_a5 R k k) [0,1,4,13,14,61,62,63] ⟨[0,1,4,13,14,61,62,63],[(2,[0,1,4,13,14,61,62,63])],[]⟩ (sel [1,1,1,1,1,0,1,0,0,1,1,0,0,1,1,1,0,0,0,0] (Try.f22.body.getD .skip)) :=
  piece_ok (nt := 112) (c := (sel [1,1,1,1,1,0,1,0,0,1,1,0,0,1,1,1,0,0,0,0] (Try.f22.body.getD .skip))) (C := R10_Tree_Encode_C R k) (an := An) (t := (.seq (.reg [0,1,4,13,14,61,62,63,87] []) (.cond .leaf .leaf))) (ic := R10_Tree_Encode_i5) (R10_Tree_Encode_S R k) (R10_Tree_Encode_J R k) (by kernel_rfl) (And.intro True.intro (And.intro True.intro True.intro)) (R10_Tree_Encode_a5 R k k)
    (fun vals H K r h => by
      unfold R10_Tree_Encode_a5 R10_Tree_Encode_aa5 at h
      split at h <;> first | (cases h; done) | exact Eq.trans (R10_Tree_Encode_e5 (R09_Writer_Bits k) R10_Tree_leaf (R10_Tree_minima k) (R10_Tree_path k) (R09_Writer_Put k) (R10_Tree_Encode_p0 k) (R10_Tree_Encode_p1 k) (R10_Tree_Encode_p2 k) (R10_Tree_Encode_l3 k) (R10_Tree_Encode_l4 k) (R10_Tree_Encode_p5 k) k _ _ _ _ _ _ _ _ _ _ H K) h)
theorem R10_Tree_Encode_e4 {R : Type} (R09_Writer_Bits : R09_Writer_Bits_t R) (R10_Tree_leaf : R10_Tree_leaf_t R) (R10_Tree_minima : R10_Tree_minima_t R) (R10_Tree_path : R10_Tree_path_t R) (R09_Writer_Put : R09_Writer_Put_t R) (R10_Tree_Encode_p0 : R10_Tree_Encode_p0_t R) (R10_Tree_Encode_p1 : R10_Tree_Encode_p1_t R) (R10_Tree_Encode_p2 : R10_Tree_Encode_p2_t R) (R10_Tree_Encode_l3 : R10_Tree_Encode_l3_t R) (R10_Tree_Encode_l4 : R10_Tree_Encode_l4_t R) (R10_Tree_Encode_p5 : R10_Tree_Encode_p5_t R) (k n : Nat) (p342 : Oa) (p343 : Oa) (n344 : Int) (n345 : Int) (p346 : Oa) (q347 : Oa) (l348 : Nat) (c349 : Nat) (n350 : Int) (n351 : Int) (H : Heap) (K : Xit → Env → Heap → Option R) : evJ (R10_Tree_Encode_Ct R09_Writer_Bits R10_Tree_leaf R10_Tree_minima R10_Tree_path R09_Writer_Put) (R10_Tree_Encode_Jt k R10_Tree_Encode_p0 R10_Tree_Encode_p1 R10_Tree_Encode_p2 R10_Tree_Encode_l3 R10_Tree_Encode_l4 R10_Tree_Encode_p5) R10_Tree_Encode_i4 (List.zip [0,1,4,13,14,61,62,63] [.pointer p342,.pointer p343,.int .i64 n344,.int .i64 n345,.pointer p346,.slice q347 l348 c349,.int .i64 n350,.int .i64 n351]) H (fun x e' H' => match x with | .normal => R10_Tree_Encode_aa4 R10_Tree_Encode_l4 n ((clean e' [0,1,4,13,14,61,62,63]).map (·.2)) H' K | x => K x (clean e' ((⟨[],[(2,[0,1,4,13,14,61,62,63])],[]⟩ : Out).of x)) H') = R10_Tree_Encode_l4_b R10_Tree_Encode_p5 R09_Writer_Put (R10_Tree_Encode_l4 (fun p1666 p1667 n1668 n1669 p1670 q1671 l1672 c1673 n1674 n1675 H => K (.exit 2) [(0,.pointer p1666),(1,.pointer p1667),(4,.int .i64 n1668),(13,.int .i64 n1669),(14,.pointer p1670),(61,.slice q1671 l1672 c1673),(62,.int .i64 n1674),(63,.int .i64 n1675)] H) n) (fun p1666 p1667 n1668 n1669 p1670 q1671 l1672 c1673 n1674 n1675 H => K (.exit 2) [(0,.pointer p1666),(1,.pointer p1667),(4,.int .i64 n1668),(13,.int .i64 n1669),(14,.pointer p1670),(61,.slice q1671 l1672 c1673),(62,.int .i64 n1674),(63,.int .i64 n1675)] H) k p342 p343 n344 n345 p346 q347 l348 c349 n350 n351 H := by kernel_rfl
theorem R10_Tree_Encode_j4 {R : Type} (k : Nat) : JS Try.prog 112 (R10_Tree_Encode_a4 R k k) [0,1,4,13,14,61,62,63] ⟨[],[(2,[0,1,4,13,14,61,62,63])],[]⟩ (.loop (sel [1,1,1,1,1,0,1,0,0,1,1,0,0,1,1,1,0,0,0] (Try.f22.body.getD .skip))) :=
  loop_ok (nt := 112) (c := (sel [1,1,1,1,1,0,1,0,0,1,1,0,0,1,1,1,0,0,0] (Try.f22.body.getD .skip))) (C := R10_Tree_Encode_C R k) (an := An) (t := (.seq (.opq 5 [0,1,4,13,14,61,62,63] ⟨[0,1,4,13,14,61,62,63],[(2,[0,1,4,13,14,61,62,63])],[]⟩ (.seq (.reg [0,1,4,13,14,61,62,63,87] []) (.cond .leaf .leaf))) (.node (.seq (.reg [0,1,4,13,14,61,62,63,92] []) (.cond (.seq (.reg [0,1,4,13,14,61,62,63] []) (.reg [0,1,4,13,14,61,62,63] [])) (.seq (.reg [0,1,4,13,14,61,62,63] []) (.reg [0,1,4,13,14,61,62,63] []))))))) (ic := R10_Tree_Encode_i4) (R10_Tree_Encode_S R k) (R10_Tree_Encode_J R k) (by kernel_rfl) (And.intro (R10_Tree_Encode_j5 k) (And.intro True.intro (And.intro (And.intro True.intro True.intro) (And.intro True.intro True.intro)))) (R10_Tree_Encode_a4 R k) (fun vals H K => by unfold R10_Tree_Encode_a4 R10_Tree_Encode_aa4; split <;> rfl)
    (fun n vals H K r h => by
      unfold R10_Tree_Encode_a4 R10_Tree_Encode_aa4 at h
      split at h <;> first | (cases h; done) | exact Eq.trans (R10_Tree_Encode_e4 (R09_Writer_Bits k) R10_Tree_leaf (R10_Tree_minima k) (R10_Tree_path k) (R09_Writer_Put k) (R10_Tree_Encode_p0 k) (R10_Tree_Encode_p1 k) (R10_Tree_Encode_p2 k) (R10_Tree_Encode_l3 k) (R10_Tree_Encode_l4 k) (R10_Tree_Encode_p5 k) k n _ _ _ _ _ _ _ _ _ _ H K) h) k
theorem R10_Tree_Encode_e3 {R : Type} (R09_Writer_Bits : R09_Writer_Bits_t R) (R10_Tree_leaf : R10_Tree_leaf_t R) (R10_Tree_minima : R10_Tree_minima_t R) (R10_Tree_path : R10_Tree_path_t R) (R09_Writer_Put : R09_Writer_Put_t R) (R10_Tree_Encode_p0 : R10_Tree_Encode_p0_t R) (R10_Tree_Encode_p1 : R10_Tree_Encode_p1_t R) (R10_Tree_Encode_p2 : R10_Tree_Encode_p2_t R) (R10_Tree_Encode_l3 : R10_Tree_Encode_l3_t R) (R10_Tree_Encode_l4 : R10_Tree_Encode_l4_t R) (R10_Tree_Encode_p5 : R10_Tree_Encode_p5_t R) (k n : Nat) (p315 : Oa) (p316 : Oa) (n317 : Int) (n318 : Int) (q319 : Oa) (l320 : Nat) (c321 : Nat) (n322 : Int) (n323 : Int) (H : Heap) (K : Xit → Env → Heap → Option R) : evJ (R10_Tree_Encode_Ct R09_Writer_Bits R10_Tree_leaf R10_Tree_minima R10_Tree_path R09_Writer_Put) (R10_Tree_Encode_Jt k R10_Tree_Encode_p0 R10_Tree_Encode_p1 R10_Tree_Encode_p2 R10_Tree_Encode_l3 R10_Tree_Encode_l4 R10_Tree_Encode_p5) R10_Tree_Encode_i3 (List.zip [0,1,4,11,61,62,63] [.pointer p315,.pointer p316,.int .i64 n317,.int .i64 n318,.slice q319 l320 c321,.int .i64 n322,.int .i64 n323]) H (fun x e' H' => match x with | .normal => R10_Tree_Encode_aa3 R10_Tree_Encode_l3 n ((clean e' [0,1,4,11,61,62,63]).map (·.2)) H' K | x => K x (clean e' ((⟨[],[(0,[])],[]⟩ : Out).of x)) H') = R10_Tree_Encode_l3_b R10_Tree_Encode_l4 (R10_Tree_Encode_l3 (fun H => K (.exit 0) [] H) n) (fun H => K (.exit 0) [] H) k p315 p316 n317 n318 q319 l320 c321 n322 n323 H := by kernel_rfl
theorem R10_Tree_Encode_j3 {R : Type} (k : Nat) : JS Try.prog 112 (R10_Tree_Encode_a3 R k k) [0,1,4,11,61,62,63] ⟨[],[(0,[])],[]⟩ (.loop (sel [1,1,1,1,1,0,1,0,0] (Try.f22.body.getD .skip))) :=
  loop_ok (nt := 112) (c := (sel [1,1,1,1,1,0,1,0,0] (Try.f22.body.getD .skip))) (C := R10_Tree_Encode_C R k) (an := An) (t := (.seq (.reg [0,1,4,11,61,62,63,64] []) (.seq (.cond .leaf .leaf) (.seq (.node (.seq (.reg [0,1,4,11,13,61,62,63] []) (.seq (.reg [0,1,4,11,13,14,61,62,63] []) (.seq (.reg [0,1,4,13,14,61,62,63] []) (.seq (.node (.opq 4 [0,1,4,13,14,61,62,63] ⟨[],[(2,[0,1,4,13,14,61,62,63])],[]⟩ (.node (.seq (.opq 5 [0,1,4,13,14,61,62,63] ⟨[0,1,4,13,14,61,62,63],[(2,[0,1,4,13,14,61,62,63])],[]⟩ (.seq (.reg [0,1,4,13,14,61,62,63,87] []) (.cond .leaf .leaf))) (.node (.seq (.reg [0,1,4,13,14,61,62,63,92] []) (.cond (.seq (.reg [0,1,4,13,14,61,62,63] []) (.reg [0,1,4,13,14,61,62,63] [])) (.seq (.reg [0,1,4,13,14,61,62,63] []) (.reg [0,1,4,13,14,61,62,63] []))))))))) (.seq (.reg [0,1,4,14,61,62,63] [[],[0],[0,1],[0,1,2],[],[],[0,1,2,3,4,5],[0,1,2,3,4,5,6]]) (.reg [0,1,4,11,61,62,63] []))))))) (.reg [0,1,4,11,61,62,63] []))))) (ic := R10_Tree_Encode_i3) (R10_Tree_Encode_S R k) (R10_Tree_Encode_J R k) (by kernel_rfl) (And.intro True.intro (And.intro (And.intro True.intro True.intro) (And.intro (And.intro True.intro (And.intro True.intro (And.intro True.intro (And.intro (R10_Tree_Encode_j4 k) (And.intro True.intro True.intro))))) True.intro))) (R10_Tree_Encode_a3 R k) (fun vals H K => by unfold R10_Tree_Encode_a3 R10_Tree_Encode_aa3; split <;> rfl)
    (fun n vals H K r h => by
      unfold R10_Tree_Encode_a3 R10_Tree_Encode_aa3 at h
      split at h <;> first | (cases h; done) | exact Eq.trans (R10_Tree_Encode_e3 (R09_Writer_Bits k) R10_Tree_leaf (R10_Tree_minima k) (R10_Tree_path k) (R09_Writer_Put k) (R10_Tree_Encode_p0 k) (R10_Tree_Encode_p1 k) (R10_Tree_Encode_p2 k) (R10_Tree_Encode_l3 k) (R10_Tree_Encode_l4 k) (R10_Tree_Encode_p5 k) k n _ _ _ _ _ _ _ _ _ H K) h) k
theorem R10_Tree_Encode_e2 {R : Type} (R09_Writer_Bits : R09_Writer_Bits_t R) (R10_Tree_leaf : R10_Tree_leaf_t R) (R10_Tree_minima : R10_Tree_minima_t R) (R10_Tree_path : R10_Tree_path_t R) (R09_Writer_Put : R09_Writer_Put_t R) (R10_Tree_Encode_p0 : R10_Tree_Encode_p0_t R) (R10_Tree_Encode_p1 : R10_Tree_Encode_p1_t R) (R10_Tree_Encode_p2 : R10_Tree_Encode_p2_t R) (R10_Tree_Encode_l3 : R10_Tree_Encode_l3_t R) (R10_Tree_Encode_l4 : R10_Tree_Encode_l4_t R) (R10_Tree_Encode_p5 : R10_Tree_Encode_p5_t R) (k : Nat) (p288 : Oa) (p289 : Oa) (n290 : Int) (n291 : Int) (n292 : Int) (H : Heap) (K : Xit → Env → Heap → Option R) : evJ (R10_Tree_Encode_Ct R09_Writer_Bits R10_Tree_leaf R10_Tree_minima R10_Tree_path R09_Writer_Put) (R10_Tree_Encode_Jt k R10_Tree_Encode_p0 R10_Tree_Encode_p1 R10_Tree_Encode_p2 R10_Tree_Encode_l3 R10_Tree_Encode_l4 R10_Tree_Encode_p5) R10_Tree_Encode_i2 (List.zip [0,1,2,3,4] [.pointer p288,.pointer p289,.int .i64 n290,.int .i64 n291,.int .i64 n292]) H (fun x e' H' => K x (clean e' ((⟨[0,1,2,3,4],[],[]⟩ : Out).of x)) H') = R10_Tree_Encode_p2_b R10_Tree_minima k p288 p289 n290 n291 n292 H (fun p1661 p1662 n1663 n1664 n1665 H => K .normal [(0,.pointer p1661),(1,.pointer p1662),(2,.int .i64 n1663),(3,.int .i64 n1664),(4,.int .i64 n1665)] H) := by kernel_rfl
theorem R10_Tree_Encode_j2 {R : Type} (k : Nat) : JS Try.prog 112 (R10_Tree_Encode_a2 R k k) [0,1,2,3,4] ⟨[0,1,2,3,4],[],[]⟩ (sel [1,1,1,0] (Try.f22.body.getD .skip)) :=
  piece_ok (nt := 112) (c := (sel [1,1,1,0] (Try.f22.body.getD .skip))) (C := R10_Tree_Encode_C R k) (an := An) (t := (.seq (.reg [0,1,2,3,4,52] []) (.cond (.seq (.reg [0,1,2,3,4] []) (.reg [0,1,2,3,4] [])) .leaf))) (ic := R10_Tree_Encode_i2) (R10_Tree_Encode_S R k) (R10_Tree_Encode_J R k) (by kernel_rfl) (And.intro True.intro (And.intro (And.intro True.intro True.intro) True.intro)) (R10_Tree_Encode_a2 R k k)
    (fun vals H K r h => by
      unfold R10_Tree_Encode_a2 R10_Tree_Encode_aa2 at h
      split at h <;> first | (cases h; done) | exact Eq.trans (R10_Tree_Encode_e2 (R09_Writer_Bits k) R10_Tree_leaf (R10_Tree_minima k) (R10_Tree_path k) (R09_Writer_Put k) (R10_Tree_Encode_p0 k) (R10_Tree_Encode_p1 k) (R10_Tree_Encode_p2 k) (R10_Tree_Encode_l3 k) (R10_Tree_Encode_l4 k) (R10_Tree_Encode_p5 k) k _ _ _ _ _ H K) h)
theorem R10_Tree_Encode_e1 {R : Type} (R09_Writer_Bits : R09_Writer_Bits_t R) (R10_Tree_leaf : R10_Tree_leaf_t R) (R10_Tree_minima : R10_Tree_minima_t R) (R10_Tree_path : R10_Tree_path_t R) (R09_Writer_Put : R09_Writer_Put_t R) (R10_Tree_Encode_p0 : R10_Tree_Encode_p0_t R) (R10_Tree_Encode_p1 : R10_Tree_Encode_p1_t R) (R10_Tree_Encode_p2 : R10_Tree_Encode_p2_t R) (R10_Tree_Encode_l3 : R10_Tree_Encode_l3_t R) (R10_Tree_Encode_l4 : R10_Tree_Encode_l4_t R) (R10_Tree_Encode_p5 : R10_Tree_Encode_p5_t R) (k : Nat) (p271 : Oa) (p272 : Oa) (n273 : Int) (n274 : Int) (n275 : Int) (H : Heap) (K : Xit → Env → Heap → Option R) : evJ (R10_Tree_Encode_Ct R09_Writer_Bits R10_Tree_leaf R10_Tree_minima R10_Tree_path R09_Writer_Put) (R10_Tree_Encode_Jt k R10_Tree_Encode_p0 R10_Tree_Encode_p1 R10_Tree_Encode_p2 R10_Tree_Encode_l3 R10_Tree_Encode_l4 R10_Tree_Encode_p5) R10_Tree_Encode_i1 (List.zip [0,1,2,3,4] [.pointer p271,.pointer p272,.int .i64 n273,.int .i64 n274,.int .i64 n275]) H (fun x e' H' => K x (clean e' ((⟨[0,1,2,3,4],[],[10]⟩ : Out).of x)) H') = R10_Tree_Encode_p1_b R10_Tree_leaf k p271 p272 n273 n274 n275 H (fun p1655 p1656 n1657 n1658 n1659 => K .normal [(0,.pointer p1655),(1,.pointer p1656),(2,.int .i64 n1657),(3,.int .i64 n1658),(4,.int .i64 n1659)] H) (fun n1660 => K .ret [(10,.int .i64 n1660)] H) := by kernel_rfl
theorem R10_Tree_Encode_j1 {R : Type} (k : Nat) : JS Try.prog 112 (R10_Tree_Encode_a1 R k k) [0,1,2,3,4] ⟨[0,1,2,3,4],[],[10]⟩ (sel [1,1,0] (Try.f22.body.getD .skip)) :=
  piece_ok (nt := 112) (c := (sel [1,1,0] (Try.f22.body.getD .skip))) (C := R10_Tree_Encode_C R k) (an := An) (t := (.seq (.reg [0,1,2,3,4,47] []) (.cond (.seq (.reg [10] []) .leaf) .leaf))) (ic := R10_Tree_Encode_i1) (R10_Tree_Encode_S R k) (R10_Tree_Encode_J R k) (by kernel_rfl) (And.intro True.intro (And.intro (And.intro True.intro True.intro) True.intro)) (R10_Tree_Encode_a1 R k k)
    (fun vals H K r h => by
      unfold R10_Tree_Encode_a1 R10_Tree_Encode_aa1 at h
      split at h <;> first | (cases h; done) | exact Eq.trans (R10_Tree_Encode_e1 (R09_Writer_Bits k) R10_Tree_leaf (R10_Tree_minima k) (R10_Tree_path k) (R09_Writer_Put k) (R10_Tree_Encode_p0 k) (R10_Tree_Encode_p1 k) (R10_Tree_Encode_p2 k) (R10_Tree_Encode_l3 k) (R10_Tree_Encode_l4 k) (R10_Tree_Encode_p5 k) k _ _ _ _ _ H K) h)
theorem R10_Tree_Encode_e0 {R : Type} (R09_Writer_Bits : R09_Writer_Bits_t R) (R10_Tree_leaf : R10_Tree_leaf_t R) (R10_Tree_minima : R10_Tree_minima_t R) (R10_Tree_path : R10_Tree_path_t R) (R09_Writer_Put : R09_Writer_Put_t R) (R10_Tree_Encode_p0 : R10_Tree_Encode_p0_t R) (R10_Tree_Encode_p1 : R10_Tree_Encode_p1_t R) (R10_Tree_Encode_p2 : R10_Tree_Encode_p2_t R) (R10_Tree_Encode_l3 : R10_Tree_Encode_l3_t R) (R10_Tree_Encode_l4 : R10_Tree_Encode_l4_t R) (R10_Tree_Encode_p5 : R10_Tree_Encode_p5_t R) (k : Nat) (p246 : Oa) (p247 : Oa) (n248 : Int) (n249 : Int) (n250 : Int) (H : Heap) (K : Xit → Env → Heap → Option R) : evJ (R10_Tree_Encode_Ct R09_Writer_Bits R10_Tree_leaf R10_Tree_minima R10_Tree_path R09_Writer_Put) (R10_Tree_Encode_Jt k R10_Tree_Encode_p0 R10_Tree_Encode_p1 R10_Tree_Encode_p2 R10_Tree_Encode_l3 R10_Tree_Encode_l4 R10_Tree_Encode_p5) R10_Tree_Encode_i0 (List.zip [0,1,2,3,4] [.pointer p246,.pointer p247,.int .i64 n248,.int .i64 n249,.int .i64 n250]) H (fun x e' H' => K x (clean e' ((⟨[0,1,2,3,4],[],[10]⟩ : Out).of x)) H') = R10_Tree_Encode_p0_b R09_Writer_Bits k p246 p247 n248 n249 n250 H (fun p1649 p1650 n1651 n1652 n1653 H => K .normal [(0,.pointer p1649),(1,.pointer p1650),(2,.int .i64 n1651),(3,.int .i64 n1652),(4,.int .i64 n1653)] H) (fun n1654 H => K .ret [(10,.int .i64 n1654)] H) := by kernel_rfl
theorem R10_Tree_Encode_j0 {R : Type} (k : Nat) : JS Try.prog 112 (R10_Tree_Encode_a0 R k k) [0,1,2,3,4] ⟨[0,1,2,3,4],[],[10]⟩ (sel [1,0] (Try.f22.body.getD .skip)) :=
  piece_ok (nt := 112) (c := (sel [1,0] (Try.f22.body.getD .skip))) (C := R10_Tree_Encode_C R k) (an := An) (t := (.seq (.reg [0,1,2,3,4,34] []) (.cond (.seq (.reg [10] []) .leaf) .leaf))) (ic := R10_Tree_Encode_i0) (R10_Tree_Encode_S R k) (R10_Tree_Encode_J R k) (by kernel_rfl) (And.intro True.intro (And.intro (And.intro True.intro True.intro) True.intro)) (R10_Tree_Encode_a0 R k k)
    (fun vals H K r h => by
      unfold R10_Tree_Encode_a0 R10_Tree_Encode_aa0 at h
      split at h <;> first | (cases h; done) | exact Eq.trans (R10_Tree_Encode_e0 (R09_Writer_Bits k) R10_Tree_leaf (R10_Tree_minima k) (R10_Tree_path k) (R09_Writer_Put k) (R10_Tree_Encode_p0 k) (R10_Tree_Encode_p1 k) (R10_Tree_Encode_p2 k) (R10_Tree_Encode_l3 k) (R10_Tree_Encode_l4 k) (R10_Tree_Encode_p5 k) k _ _ _ _ _ H K) h)
def R10_Tree_Encode_ca {R : Type} (f : R10_Tree_Encode_t R) (args : List Value) (H : Heap) (K : Value → Heap → Option R) : Option R :=
  match args with
  | [.pointer p241,.pointer p242,.int .i64 n243,.int .i64 n244,.int .i64 n245] => f p241 p242 n243 n244 n245 H (fun n1696 H => K (.int .i64 n1696) H)
  | _ => none
def R10_Tree_Encode_c (R : Type) (k : Nat) (args : List Value) (H : Heap) (K : Value → Heap → Option R) : Option R := R10_Tree_Encode_ca (R10_Tree_Encode k) args H K
theorem R10_Tree_Encode_e {R : Type} (R09_Writer_Bits : R09_Writer_Bits_t R) (R10_Tree_leaf : R10_Tree_leaf_t R) (R10_Tree_minima : R10_Tree_minima_t R) (R10_Tree_path : R10_Tree_path_t R) (R09_Writer_Put : R09_Writer_Put_t R) (R10_Tree_Encode_p0 : R10_Tree_Encode_p0_t R) (R10_Tree_Encode_p1 : R10_Tree_Encode_p1_t R) (R10_Tree_Encode_p2 : R10_Tree_Encode_p2_t R) (R10_Tree_Encode_l3 : R10_Tree_Encode_l3_t R) (R10_Tree_Encode_l4 : R10_Tree_Encode_l4_t R) (R10_Tree_Encode_p5 : R10_Tree_Encode_p5_t R) (k : Nat) (p241 : Oa) (p242 : Oa) (n243 : Int) (n244 : Int) (n245 : Int) (H : Heap) (K : Value → Heap → Option R) : evF (R10_Tree_Encode_Ct R09_Writer_Bits R10_Tree_leaf R10_Tree_minima R10_Tree_path R09_Writer_Put) (R10_Tree_Encode_Jt k R10_Tree_Encode_p0 R10_Tree_Encode_p1 R10_Tree_Encode_p2 R10_Tree_Encode_l3 R10_Tree_Encode_l4 R10_Tree_Encode_p5) R10_Tree_Encode_f [.pointer p241,.pointer p242,.int .i64 n243,.int .i64 n244,.int .i64 n245] H K = R10_Tree_Encode_b R10_Tree_Encode_p0 R10_Tree_Encode_p1 R10_Tree_Encode_p2 R10_Tree_path R10_Tree_Encode_l3 k p241 p242 n243 n244 n245 H (fun n1696 H => K (.int .i64 n1696) H) := by kernel_rfl
theorem R10_Tree_Encode_cs (R : Type) (k : Nat) : ∀ args H K r,R10_Tree_Encode_c R k args H K = some r → ∃ v H',Tri Try.prog 22 args H v H' ∧ K v H' = some r := by
  intro args H K r h
  unfold R10_Tree_Encode_c R10_Tree_Encode_ca at h
  split at h
  · exact evF_ok (C := R10_Tree_Encode_C R k) (an := An) (t := R10_Tree_Encode_at) (fn := Try.f22) (c := (Try.f22.body.getD .skip)) (ifn := R10_Tree_Encode_f) (R10_Tree_Encode_S R k) (R10_Tree_Encode_J R k) Try.func22 (by kernel_rfl) (by kernel_rfl) (And.intro True.intro (And.intro (R10_Tree_Encode_j0 k) (And.intro (R10_Tree_Encode_j1 k) (And.intro (R10_Tree_Encode_j2 k) (And.intro True.intro (And.intro (And.intro True.intro (R10_Tree_Encode_j3 k)) (And.intro True.intro True.intro))))))) rfl (Eq.trans (R10_Tree_Encode_e (R09_Writer_Bits k) R10_Tree_leaf (R10_Tree_minima k) (R10_Tree_path k) (R09_Writer_Put k) (R10_Tree_Encode_p0 k) (R10_Tree_Encode_p1 k) (R10_Tree_Encode_p2 k) (R10_Tree_Encode_l3 k) (R10_Tree_Encode_l4 k) (R10_Tree_Encode_p5 k) k _ _ _ _ _ H K) h)
  · cases h
/-! ### R09_Writer_Len: function 24 -/
abbrev R09_Writer_Len_p0_t (R : Type) : Type := Oa → Heap → (Oa → Option R) → (Int → Option R) → Option R
def R09_Writer_Len_p0_b {R : Type} (k : Nat) (p462 : Oa) (H : Heap) (KN : Oa → Option R) (KR : Int → Option R) : Option R :=
bif p462.isNone then (KR 0)
 else (hnil p462 fun p463 =>
hfad 0 p463 fun p464 =>
ldB H p464 fun t465 =>
bif (!t465) then (KR 0)
 else (KN p462))
def R09_Writer_Len_p0 {R : Type} (k : Nat) (p462 : Oa) (H : Heap) (KN : Oa → Option R) (KR : Int → Option R) : Option R := R09_Writer_Len_p0_b k p462 H KN KR

abbrev R09_Writer_Len_t (R : Type) : Type := Oa → Heap → (Int → Option R) → Option R

def R09_Writer_Len_b {R : Type} (R09_Writer_Len_p0 : R09_Writer_Len_p0_t R) (k : Nat) (p461 : Oa) (H : Heap) (K : Int → Option R) : Option R :=
R09_Writer_Len_p0 p461 H (fun p468 =>
hnil p468 fun p469 =>
hfad 1 p469 fun p470 =>
ldL H p470 fun q471 l472 c473 =>
K ((l472 : Nat) : Int)) (fun n474 =>
K n474)

def R09_Writer_Len {R : Type} (k : Nat) (p461 : Oa) (H : Heap) (K : Int → Option R) : Option R := R09_Writer_Len_b (R09_Writer_Len_p0 k) k p461 H K

def R09_Writer_Len_Ct {R : Type} : Tab R := fun _ _ _ _ => none
def R09_Writer_Len_C (R : Type) (k : Nat) : Tab R := R09_Writer_Len_Ct
theorem R09_Writer_Len_S (R : Type) (k : Nat) : CSound Try.prog (R09_Writer_Len_C R k) := csound_nil
def R09_Writer_Len_aa0 {R : Type} (f : R09_Writer_Len_p0_t R) (n : Nat) (vals : List Value) (H : Heap) (K : Xit → Env → Heap → Option R) : Option R :=
  match vals with
  | [.pointer p462] => f p462 H (fun p1697 => K .normal [(0,.pointer p1697)] H) (fun n1698 => K .ret [(2,.int .i64 n1698)] H)
  | _ => none
def R09_Writer_Len_a0 (R : Type) (k n : Nat) (vals : List Value) (H : Heap) (K : Xit → Env → Heap → Option R) : Option R := R09_Writer_Len_aa0 (R09_Writer_Len_p0 k) n vals H K
def R09_Writer_Len_Jt {R : Type} (k : Nat) (R09_Writer_Len_p0 : R09_Writer_Len_p0_t R) : JTab R := tcons 0 (R09_Writer_Len_aa0 R09_Writer_Len_p0 k) <| fun _ _ _ _ => none
def R09_Writer_Len_J (R : Type) (k : Nat) : JTab R := R09_Writer_Len_Jt k (R09_Writer_Len_p0 k)
def R09_Writer_Len_at : AT := (.seq (.reg [0] []) (.seq (.opq 0 [0] ⟨[0],[],[2]⟩ (.seq (.reg [0,11] []) (.cond (.seq (.reg [2] []) .leaf) .leaf))) (.seq (.reg [2] []) .leaf)))
def R09_Writer_Len_i0 : IC := (.seq (.reg [⟨some 3,.mov (.t 0),none⟩,
⟨some 4,.eqnil (.t 3) false 0,none⟩,
⟨some 5,.mov (.t 4),none⟩,
⟨some 6,.mov (.t 0),some (5,false)⟩,
⟨some 7,.nilc (.t 6),some (5,false)⟩,
⟨some 8,.fad 0 (.t 7),some (5,false)⟩,
⟨some 9,.ld (.sc .bool) (.t 8),some (5,false)⟩,
⟨some 10,.lnot (.t 9),some (5,false)⟩,
⟨some 11,.pick (.t 5) (.c (Go.Value.bool true)) (.t 10),none⟩] [0,11]) (.cond (.t 11) (.seq (.reg [⟨some 2,.mov (.c (Go.Value.int Go.IntKind.i64 0)),none⟩] [2]) .ret) .skip))
def R09_Writer_Len_f : IFn := ⟨17,[.t 2],(.seq (.reg [⟨some 2,.mov (.c (Go.Value.int Go.IntKind.i64 0)),none⟩] [0]) (.seq (.opq 0 [0] R09_Writer_Len_i0) (.seq (.reg [⟨some 12,.mov (.t 0),none⟩,
⟨some 13,.nilc (.t 12),none⟩,
⟨some 14,.fad 1 (.t 13),none⟩,
⟨some 15,.ld (.sc .slc) (.t 14),none⟩,
⟨some 16,.len false (.t 15),none⟩,
⟨some 2,.mov (.t 16),none⟩] [2]) .ret)))⟩
theorem R09_Writer_Len_e0 {R : Type} (R09_Writer_Len_p0 : R09_Writer_Len_p0_t R) (k : Nat) (p462 : Oa) (H : Heap) (K : Xit → Env → Heap → Option R) : evJ (R09_Writer_Len_Ct) (R09_Writer_Len_Jt k R09_Writer_Len_p0) R09_Writer_Len_i0 (List.zip [0] [.pointer p462]) H (fun x e' H' => K x (clean e' ((⟨[0],[],[2]⟩ : Out).of x)) H') = R09_Writer_Len_p0_b k p462 H (fun p1697 => K .normal [(0,.pointer p1697)] H) (fun n1698 => K .ret [(2,.int .i64 n1698)] H) := by kernel_rfl
theorem R09_Writer_Len_j0 {R : Type} (k : Nat) : JS Try.prog 17 (R09_Writer_Len_a0 R k k) [0] ⟨[0],[],[2]⟩ (sel [1,0] (Try.f24.body.getD .skip)) :=
  piece_ok (nt := 17) (c := (sel [1,0] (Try.f24.body.getD .skip))) (C := R09_Writer_Len_C R k) (an := An) (t := (.seq (.reg [0,11] []) (.cond (.seq (.reg [2] []) .leaf) .leaf))) (ic := R09_Writer_Len_i0) (R09_Writer_Len_S R k) (R09_Writer_Len_J R k) (by kernel_rfl) (And.intro True.intro (And.intro (And.intro True.intro True.intro) True.intro)) (R09_Writer_Len_a0 R k k)
    (fun vals H K r h => by
      unfold R09_Writer_Len_a0 R09_Writer_Len_aa0 at h
      split at h <;> first | (cases h; done) | exact Eq.trans (R09_Writer_Len_e0 (R09_Writer_Len_p0 k) k _ H K) h)
def R09_Writer_Len_ca {R : Type} (f : R09_Writer_Len_t R) (args : List Value) (H : Heap) (K : Value → Heap → Option R) : Option R :=
  match args with
  | [.pointer p461] => f p461 H (fun n1699 => K (.int .i64 n1699) H)
  | _ => none
def R09_Writer_Len_c (R : Type) (k : Nat) (args : List Value) (H : Heap) (K : Value → Heap → Option R) : Option R := R09_Writer_Len_ca (R09_Writer_Len k) args H K
theorem R09_Writer_Len_e {R : Type} (R09_Writer_Len_p0 : R09_Writer_Len_p0_t R) (k : Nat) (p461 : Oa) (H : Heap) (K : Value → Heap → Option R) : evF (R09_Writer_Len_Ct) (R09_Writer_Len_Jt k R09_Writer_Len_p0) R09_Writer_Len_f [.pointer p461] H K = R09_Writer_Len_b R09_Writer_Len_p0 k p461 H (fun n1699 => K (.int .i64 n1699) H) := by kernel_rfl
theorem R09_Writer_Len_cs (R : Type) (k : Nat) : ∀ args H K r,R09_Writer_Len_c R k args H K = some r → ∃ v H',Tri Try.prog 24 args H v H' ∧ K v H' = some r := by
  intro args H K r h
  unfold R09_Writer_Len_c R09_Writer_Len_ca at h
  split at h
  · exact evF_ok (C := R09_Writer_Len_C R k) (an := An) (t := R09_Writer_Len_at) (fn := Try.f24) (c := (Try.f24.body.getD .skip)) (ifn := R09_Writer_Len_f) (R09_Writer_Len_S R k) (R09_Writer_Len_J R k) Try.func24 (by kernel_rfl) (by kernel_rfl) (And.intro True.intro (And.intro (R09_Writer_Len_j0 k) (And.intro True.intro True.intro))) rfl (Eq.trans (R09_Writer_Len_e (R09_Writer_Len_p0 k) k _ H K) h)
  · cases h
/-! ### R09_Writer_Bytes: function 29 -/
abbrev R09_Writer_Bytes_p0_t (R : Type) : Type := Oa → Heap → (Oa → Option R) → (Oa → Nat → Nat → Option R) → Option R
def R09_Writer_Bytes_p0_b {R : Type} (k : Nat) (p237 : Oa) (H : Heap) (KN : Oa → Option R) (KR : Oa → Nat → Nat → Option R) : Option R :=
bif p237.isNone then (KR none 0 0)
 else (hnil p237 fun p238 =>
hfad 0 p238 fun p239 =>
ldB H p239 fun t240 =>
bif (!t240) then (KR none 0 0)
 else (KN p237))
def R09_Writer_Bytes_p0 {R : Type} (k : Nat) (p237 : Oa) (H : Heap) (KN : Oa → Option R) (KR : Oa → Nat → Nat → Option R) : Option R := R09_Writer_Bytes_p0_b k p237 H KN KR

abbrev R09_Writer_Bytes_p2_t (R : Type) : Type := Oa → Oa → Nat → Nat → Int → Int → Heap → (Oa → Oa → Nat → Nat → Int → Int → Option R) → Option R
def R09_Writer_Bytes_p2_b {R : Type} (k : Nat) (p256 : Oa) (q257 : Oa) (l258 : Nat) (c259 : Nat) (n260 : Int) (n261 : Int) (H : Heap) (KN : Oa → Oa → Nat → Nat → Int → Int → Option R) : Option R :=
bif decide (((l258 : Nat) : Int) > 0) then (hidx q257 l258 (IntKind.wrap .i64 (((l258 : Nat) : Int) - 1)) 1 fun p262 =>
ldI .u8 H p262 fun n263 =>
bif (n263 == 255) then (KN p256 q257 l258 c259 n260 7)
 else (KN p256 q257 l258 c259 n260 n261))
 else (KN p256 q257 l258 c259 n260 n261)
def R09_Writer_Bytes_p2 {R : Type} (k : Nat) (p256 : Oa) (q257 : Oa) (l258 : Nat) (c259 : Nat) (n260 : Int) (n261 : Int) (H : Heap) (KN : Oa → Oa → Nat → Nat → Int → Int → Option R) : Option R := R09_Writer_Bytes_p2_b k p256 q257 l258 c259 n260 n261 H KN

abbrev R09_Writer_Bytes_p4_t (R : Type) : Type := Oa → Oa → Nat → Nat → Int → Int → Int → Int → Heap → (Oa → Oa → Nat → Nat → Int → Int → Int → Int → Option R) → Option R
def R09_Writer_Bytes_p4_b {R : Type} (k : Nat) (p284 : Oa) (q285 : Oa) (l286 : Nat) (c287 : Nat) (n288 : Int) (n289 : Int) (n290 : Int) (n291 : Int) (H : Heap) (KN : Oa → Oa → Nat → Nat → Int → Int → Int → Int → Option R) : Option R :=
hnil p284 fun p292 =>
hfad 1 p292 fun p293 =>
ldL H p293 fun q294 l295 c296 =>
bif decide (n288 < ((l295 : Nat) : Int)) then (hnil p284 fun p297 =>
hfad 1 p297 fun p298 =>
ldL H p298 fun q299 l300 c301 =>
hidx q299 l300 n288 1 fun p302 =>
ldI .i64 H p302 fun n303 =>
KN p284 q285 l286 c287 n288 n289 (IntKind.wrap .i64 (n290 + n303)) n291)
 else (KN p284 q285 l286 c287 n288 n289 n290 n291)
def R09_Writer_Bytes_p4 {R : Type} (k : Nat) (p284 : Oa) (q285 : Oa) (l286 : Nat) (c287 : Nat) (n288 : Int) (n289 : Int) (n290 : Int) (n291 : Int) (H : Heap) (KN : Oa → Oa → Nat → Nat → Int → Int → Int → Int → Option R) : Option R := R09_Writer_Bytes_p4_b k p284 q285 l286 c287 n288 n289 n290 n291 H KN

abbrev R09_Writer_Bytes_l3_t (R : Type) : Type := (Oa → Oa → Nat → Nat → Int → Int → Option R) → Nat → Oa → Oa → Nat → Nat → Int → Int → Int → Int → Heap → Option R
def R09_Writer_Bytes_l3_b {R : Type} (R09_Writer_Bytes_p4 : R09_Writer_Bytes_p4_t R) (rec : Oa → Oa → Nat → Nat → Int → Int → Int → Int → Heap → Option R) (KE2 : Oa → Oa → Nat → Nat → Int → Int → Option R) (k : Nat) (p276 : Oa) (q277 : Oa) (l278 : Nat) (c279 : Nat) (n280 : Int) (n281 : Int) (n282 : Int) (n283 : Int) (H : Heap) : Option R :=
bif decide (n283 < n281) then (R09_Writer_Bytes_p4 p276 q277 l278 c279 n280 n281 (IntKind.wrap .i64 (n282 * 2)) n283 H (fun p312 q313 l314 c315 n316 n317 n318 n319 =>
rec p312 q313 l314 c315 (IntKind.wrap .i64 (n316 + 1)) n317 n318 (IntKind.wrap .i64 (n319 + 1)) H))
 else (KE2 p276 q277 l278 c279 n280 n282)
def R09_Writer_Bytes_l3 {R : Type} (k : Nat) (KE2 : Oa → Oa → Nat → Nat → Int → Int → Option R) : Nat → Oa → Oa → Nat → Nat → Int → Int → Int → Int → Heap → Option R
  | 0,_,_,_,_,_,_,_,_,_ => none
  | n + 1,p276,q277,l278,c279,n280,n281,n282,n283,H => R09_Writer_Bytes_l3_b (R09_Writer_Bytes_p4 k) (R09_Writer_Bytes_l3 k KE2 n) KE2 k p276 q277 l278 c279 n280 n281 n282 n283 H

abbrev R09_Writer_Bytes_l1_t (R : Type) : Type := (Oa → Nat → Nat → Heap → Option R) → Nat → Oa → Oa → Nat → Nat → Int → Heap → Option R
def R09_Writer_Bytes_l1_b {R : Type} (R09_Writer_Bytes_p2 : R09_Writer_Bytes_p2_t R) (R09_Writer_Bytes_l3 : R09_Writer_Bytes_l3_t R) (rec : Oa → Oa → Nat → Nat → Int → Heap → Option R) (KE0 : Oa → Nat → Nat → Heap → Option R) (k : Nat) (p246 : Oa) (q247 : Oa) (l248 : Nat) (c249 : Nat) (n250 : Int) (H : Heap) : Option R :=
hnil p246 fun p251 =>
hfad 1 p251 fun p252 =>
ldL H p252 fun q253 l254 c255 =>
bif decide (n250 < ((l254 : Nat) : Int)) then (R09_Writer_Bytes_p2 p246 q247 l248 c249 n250 8 H (fun p270 q271 l272 c273 n274 n275 =>
R09_Writer_Bytes_l3 (fun p326 q327 l328 c329 n330 n331 =>
hal H [.int .u8 (IntKind.wrap .u8 n331)] fun p332 H333 =>
happS 1 1 H333 q327 l328 c329 p332 1 fun q334 l335 c336 H337 =>
rec p326 q334 l335 c336 n330 H337) k p270 q271 l272 c273 n274 n275 0 0 H))
 else (KE0 q247 l248 c249 H)
def R09_Writer_Bytes_l1 {R : Type} (k : Nat) (KE0 : Oa → Nat → Nat → Heap → Option R) : Nat → Oa → Oa → Nat → Nat → Int → Heap → Option R
  | 0,_,_,_,_,_,_ => none
  | n + 1,p246,q247,l248,c249,n250,H => R09_Writer_Bytes_l1_b (R09_Writer_Bytes_p2 k) (R09_Writer_Bytes_l3 k) (R09_Writer_Bytes_l1 k KE0 n) KE0 k p246 q247 l248 c249 n250 H

abbrev R09_Writer_Bytes_p5_t (R : Type) : Type := Oa → Nat → Nat → Heap → (Oa → Nat → Nat → Bool → Option R) → Option R
def R09_Writer_Bytes_p5_b {R : Type} (k : Nat) (q345 : Oa) (l346 : Nat) (c347 : Nat) (H : Heap) (KN : Oa → Nat → Nat → Bool → Option R) : Option R :=
bif decide (((l346 : Nat) : Int) > 0) then (hidx q345 l346 (IntKind.wrap .i64 (((l346 : Nat) : Int) - 1)) 1 fun p348 =>
ldI .u8 H p348 fun n349 =>
KN q345 l346 c347 (n349 == 255))
 else (KN q345 l346 c347 false)
def R09_Writer_Bytes_p5 {R : Type} (k : Nat) (q345 : Oa) (l346 : Nat) (c347 : Nat) (H : Heap) (KN : Oa → Nat → Nat → Bool → Option R) : Option R := R09_Writer_Bytes_p5_b k q345 l346 c347 H KN

abbrev R09_Writer_Bytes_t (R : Type) : Type := Oa → Heap → (Oa → Nat → Nat → Heap → Option R) → Option R

def R09_Writer_Bytes_b {R : Type} (R09_Writer_Bytes_p0 : R09_Writer_Bytes_p0_t R) (R09_Writer_Bytes_l1 : R09_Writer_Bytes_l1_t R) (R09_Writer_Bytes_p5 : R09_Writer_Bytes_p5_t R) (k : Nat) (p236 : Oa) (H : Heap) (K : Oa → Nat → Nat → Heap → Option R) : Option R :=
R09_Writer_Bytes_p0 p236 H (fun p245 =>
R09_Writer_Bytes_l1 (fun q341 l342 c343 H344 =>
R09_Writer_Bytes_p5 q341 l342 c343 H344 (fun q354 l355 c356 t357 =>
bif t357 then (hal H344 [.int .u8 0] fun p358 H359 =>
happS 1 1 H359 q354 l355 c356 p358 1 fun q360 l361 c362 H363 =>
K q360 l361 c362 H363)
 else (K q354 l355 c356 H344))) k p245 none 0 0 0 H) (fun q364 l365 c366 =>
K q364 l365 c366 H)

def R09_Writer_Bytes {R : Type} (k : Nat) (p236 : Oa) (H : Heap) (K : Oa → Nat → Nat → Heap → Option R) : Option R := R09_Writer_Bytes_b (R09_Writer_Bytes_p0 k) (R09_Writer_Bytes_l1 k) (R09_Writer_Bytes_p5 k) k p236 H K

def R09_Writer_Bytes_Ct {R : Type} : Tab R := fun _ _ _ _ => none
def R09_Writer_Bytes_C (R : Type) (k : Nat) : Tab R := R09_Writer_Bytes_Ct
theorem R09_Writer_Bytes_S (R : Type) (k : Nat) : CSound Try.prog (R09_Writer_Bytes_C R k) := csound_nil
def R09_Writer_Bytes_aa0 {R : Type} (f : R09_Writer_Bytes_p0_t R) (n : Nat) (vals : List Value) (H : Heap) (K : Xit → Env → Heap → Option R) : Option R :=
  match vals with
  | [.pointer p237] => f p237 H (fun p1700 => K .normal [(0,.pointer p1700)] H) (fun q1701 l1702 c1703 => K .ret [(2,.slice q1701 l1702 c1703)] H)
  | _ => none
def R09_Writer_Bytes_a0 (R : Type) (k n : Nat) (vals : List Value) (H : Heap) (K : Xit → Env → Heap → Option R) : Option R := R09_Writer_Bytes_aa0 (R09_Writer_Bytes_p0 k) n vals H K
def R09_Writer_Bytes_aa1 {R : Type} (f : R09_Writer_Bytes_l1_t R) (n : Nat) (vals : List Value) (H : Heap) (K : Xit → Env → Heap → Option R) : Option R :=
  match vals with
  | [.pointer p246,.slice q247 l248 c249,.int .i64 n250] => f (fun q1704 l1705 c1706 H => K (.exit 0) [(3,.slice q1704 l1705 c1706)] H) n p246 q247 l248 c249 n250 H
  | _ => none
def R09_Writer_Bytes_a1 (R : Type) (k n : Nat) (vals : List Value) (H : Heap) (K : Xit → Env → Heap → Option R) : Option R := R09_Writer_Bytes_aa1 (R09_Writer_Bytes_l1 k) n vals H K
def R09_Writer_Bytes_aa2 {R : Type} (f : R09_Writer_Bytes_p2_t R) (n : Nat) (vals : List Value) (H : Heap) (K : Xit → Env → Heap → Option R) : Option R :=
  match vals with
  | [.pointer p256,.slice q257 l258 c259,.int .i64 n260,.int .i64 n261] => f p256 q257 l258 c259 n260 n261 H (fun p1707 q1708 l1709 c1710 n1711 n1712 => K .normal [(0,.pointer p1707),(3,.slice q1708 l1709 c1710),(4,.int .i64 n1711),(5,.int .i64 n1712)] H)
  | _ => none
def R09_Writer_Bytes_a2 (R : Type) (k n : Nat) (vals : List Value) (H : Heap) (K : Xit → Env → Heap → Option R) : Option R := R09_Writer_Bytes_aa2 (R09_Writer_Bytes_p2 k) n vals H K
def R09_Writer_Bytes_aa3 {R : Type} (f : R09_Writer_Bytes_l3_t R) (n : Nat) (vals : List Value) (H : Heap) (K : Xit → Env → Heap → Option R) : Option R :=
  match vals with
  | [.pointer p276,.slice q277 l278 c279,.int .i64 n280,.int .i64 n281,.int .i64 n282,.int .i64 n283] => f (fun p1713 q1714 l1715 c1716 n1717 n1718 => K (.exit 2) [(0,.pointer p1713),(3,.slice q1714 l1715 c1716),(4,.int .i64 n1717),(6,.int .i64 n1718)] H) n p276 q277 l278 c279 n280 n281 n282 n283 H
  | _ => none
def R09_Writer_Bytes_a3 (R : Type) (k n : Nat) (vals : List Value) (H : Heap) (K : Xit → Env → Heap → Option R) : Option R := R09_Writer_Bytes_aa3 (R09_Writer_Bytes_l3 k) n vals H K
def R09_Writer_Bytes_aa4 {R : Type} (f : R09_Writer_Bytes_p4_t R) (n : Nat) (vals : List Value) (H : Heap) (K : Xit → Env → Heap → Option R) : Option R :=
  match vals with
  | [.pointer p284,.slice q285 l286 c287,.int .i64 n288,.int .i64 n289,.int .i64 n290,.int .i64 n291] => f p284 q285 l286 c287 n288 n289 n290 n291 H (fun p1719 q1720 l1721 c1722 n1723 n1724 n1725 n1726 => K .normal [(0,.pointer p1719),(3,.slice q1720 l1721 c1722),(4,.int .i64 n1723),(5,.int .i64 n1724),(6,.int .i64 n1725),(7,.int .i64 n1726)] H)
  | _ => none
def R09_Writer_Bytes_a4 (R : Type) (k n : Nat) (vals : List Value) (H : Heap) (K : Xit → Env → Heap → Option R) : Option R := R09_Writer_Bytes_aa4 (R09_Writer_Bytes_p4 k) n vals H K
def R09_Writer_Bytes_aa5 {R : Type} (f : R09_Writer_Bytes_p5_t R) (n : Nat) (vals : List Value) (H : Heap) (K : Xit → Env → Heap → Option R) : Option R :=
  match vals with
  | [.slice q345 l346 c347] => f q345 l346 c347 H (fun q1727 l1728 c1729 t1730 => K .normal [(3,.slice q1727 l1728 c1729),(77,.bool t1730)] H)
  | _ => none
def R09_Writer_Bytes_a5 (R : Type) (k n : Nat) (vals : List Value) (H : Heap) (K : Xit → Env → Heap → Option R) : Option R := R09_Writer_Bytes_aa5 (R09_Writer_Bytes_p5 k) n vals H K
def R09_Writer_Bytes_Jt {R : Type} (k : Nat) (R09_Writer_Bytes_p0 : R09_Writer_Bytes_p0_t R) (R09_Writer_Bytes_l1 : R09_Writer_Bytes_l1_t R) (R09_Writer_Bytes_p2 : R09_Writer_Bytes_p2_t R) (R09_Writer_Bytes_l3 : R09_Writer_Bytes_l3_t R) (R09_Writer_Bytes_p4 : R09_Writer_Bytes_p4_t R) (R09_Writer_Bytes_p5 : R09_Writer_Bytes_p5_t R) : JTab R := tcons 0 (R09_Writer_Bytes_aa0 R09_Writer_Bytes_p0 k) <| tcons 1 (R09_Writer_Bytes_aa1 R09_Writer_Bytes_l1 k) <| tcons 2 (R09_Writer_Bytes_aa2 R09_Writer_Bytes_p2 k) <| tcons 3 (R09_Writer_Bytes_aa3 R09_Writer_Bytes_l3 k) <| tcons 4 (R09_Writer_Bytes_aa4 R09_Writer_Bytes_p4 k) <| tcons 5 (R09_Writer_Bytes_aa5 R09_Writer_Bytes_p5 k) <| fun _ _ _ _ => none
def R09_Writer_Bytes_J (R : Type) (k : Nat) : JTab R := R09_Writer_Bytes_Jt k (R09_Writer_Bytes_p0 k) (R09_Writer_Bytes_l1 k) (R09_Writer_Bytes_p2 k) (R09_Writer_Bytes_l3 k) (R09_Writer_Bytes_p4 k) (R09_Writer_Bytes_p5 k)
def R09_Writer_Bytes_at : AT := (.seq (.reg [0] []) (.seq (.opq 0 [0] ⟨[0],[],[2]⟩ (.seq (.reg [0,16] []) (.cond (.seq (.reg [2] []) .leaf) .leaf))) (.seq (.reg [0,3] []) (.seq (.seq (.reg [0,3,4] []) (.node (.opq 1 [0,3,4] ⟨[],[(0,[3])],[]⟩ (.node (.seq (.seq (.reg [0,3,4,23] []) (.cond .leaf .leaf)) (.node (.seq (.reg [0,3,4,5] []) (.seq (.opq 2 [0,3,4,5] ⟨[0,3,4,5],[],[]⟩ (.seq (.reg [0,3,4,5,35] []) (.cond (.reg [0,3,4,5] []) .leaf))) (.seq (.reg [0,3,4,5,6] []) (.seq (.seq (.reg [0,3,4,5,6,7] []) (.node (.opq 3 [0,3,4,5,6,7] ⟨[],[(2,[0,3,4,6])],[]⟩ (.node (.seq (.seq (.reg [0,3,4,5,6,7,38] []) (.cond .leaf .leaf)) (.seq (.node (.seq (.reg [0,3,4,5,6,7] []) (.seq (.opq 4 [0,3,4,5,6,7] ⟨[0,3,4,5,6,7],[],[]⟩ (.seq (.reg [0,3,4,5,6,7,49] []) (.cond (.reg [0,3,4,5,6,7] []) .leaf))) (.reg [0,3,4,5,6,7] [])))) (.reg [0,3,4,5,6,7] []))))))) (.reg [0,3,4] []))))))))))) (.seq (.seq (.opq 5 [3] ⟨[3,77],[],[]⟩ (.reg [3,77] [])) (.cond (.reg [3] []) .leaf)) (.seq (.reg [2] []) .leaf))))))
def R09_Writer_Bytes_i5 : IC := (.reg [⟨some 66,.mov (.t 3),none⟩,
⟨some 67,.len false (.t 66),none⟩,
⟨some 68,.cmp .gtr (.t 67) (.c (Go.Value.int Go.IntKind.i64 0)),none⟩,
⟨some 69,.mov (.t 68),none⟩,
⟨some 70,.mov (.t 3),some (69,true)⟩,
⟨some 71,.mov (.t 3),some (69,true)⟩,
⟨some 72,.len false (.t 71),some (69,true)⟩,
⟨some 73,.bin .sub .i64 (.t 72) (.c (Go.Value.int Go.IntKind.i64 1)),some (69,true)⟩,
⟨some 74,.ids 1 (.t 70) (.t 73),some (69,true)⟩,
⟨some 75,.ld (.sc (.int .u8)) (.t 74),some (69,true)⟩,
⟨some 76,.cmp .eql (.t 75) (.c (Go.Value.int Go.IntKind.u8 255)),some (69,true)⟩,
⟨some 77,.pick (.t 69) (.t 76) (.c (Go.Value.bool false)),none⟩] [3,77])
def R09_Writer_Bytes_i4 : IC := (.seq (.reg [⟨some 43,.mov (.t 4),none⟩,
⟨some 44,.mov (.t 0),none⟩,
⟨some 45,.nilc (.t 44),none⟩,
⟨some 46,.fad 1 (.t 45),none⟩,
⟨some 47,.ld (.sc .slc) (.t 46),none⟩,
⟨some 48,.len false (.t 47),none⟩,
⟨some 49,.cmp .lss (.t 43) (.t 48),none⟩] [0,3,4,5,6,7,49]) (.cond (.t 49) (.reg [⟨some 50,.mov (.t 6),none⟩,
⟨some 51,.mov (.t 0),none⟩,
⟨some 52,.nilc (.t 51),none⟩,
⟨some 53,.fad 1 (.t 52),none⟩,
⟨some 54,.ld (.sc .slc) (.t 53),none⟩,
⟨some 55,.mov (.t 4),none⟩,
⟨some 56,.ids 1 (.t 54) (.t 55),none⟩,
⟨some 57,.ld (.sc (.int .i64)) (.t 56),none⟩,
⟨some 58,.bin .add .i64 (.t 50) (.t 57),none⟩,
⟨some 6,.mov (.t 58),none⟩] [0,3,4,5,6,7]) .skip))
def R09_Writer_Bytes_i3 : IC := (.seq (.seq (.reg [⟨some 36,.mov (.t 7),none⟩,
⟨some 37,.mov (.t 5),none⟩,
⟨some 38,.cmp .lss (.t 36) (.t 37),none⟩] [0,3,4,5,6,7,38]) (.cond (.t 38) .skip (.exit 2))) (.seq (.block 3 (.seq (.reg [⟨some 41,.mov (.t 6),none⟩,
⟨some 42,.bin .mul .i64 (.t 41) (.c (Go.Value.int Go.IntKind.i64 2)),none⟩,
⟨some 6,.mov (.t 42),none⟩] [0,3,4,5,6,7]) (.seq (.opq 4 [0,3,4,5,6,7] R09_Writer_Bytes_i4) (.reg [⟨some 59,.mov (.t 4),none⟩,
⟨some 60,.bin .add .i64 (.t 59) (.c (Go.Value.int Go.IntKind.i64 1)),none⟩,
⟨some 4,.mov (.t 60),none⟩] [0,3,4,5,6,7])))) (.reg [⟨some 39,.mov (.t 7),none⟩,
⟨some 40,.bin .add .i64 (.t 39) (.c (Go.Value.int Go.IntKind.i64 1)),none⟩,
⟨some 7,.mov (.t 40),none⟩] [0,3,4,5,6,7])))
def R09_Writer_Bytes_i2 : IC := (.seq (.reg [⟨some 24,.mov (.t 3),none⟩,
⟨some 25,.len false (.t 24),none⟩,
⟨some 26,.cmp .gtr (.t 25) (.c (Go.Value.int Go.IntKind.i64 0)),none⟩,
⟨some 27,.mov (.t 26),none⟩,
⟨some 28,.mov (.t 3),some (27,true)⟩,
⟨some 29,.mov (.t 3),some (27,true)⟩,
⟨some 30,.len false (.t 29),some (27,true)⟩,
⟨some 31,.bin .sub .i64 (.t 30) (.c (Go.Value.int Go.IntKind.i64 1)),some (27,true)⟩,
⟨some 32,.ids 1 (.t 28) (.t 31),some (27,true)⟩,
⟨some 33,.ld (.sc (.int .u8)) (.t 32),some (27,true)⟩,
⟨some 34,.cmp .eql (.t 33) (.c (Go.Value.int Go.IntKind.u8 255)),some (27,true)⟩,
⟨some 35,.pick (.t 27) (.t 34) (.c (Go.Value.bool false)),none⟩] [0,3,4,5,35]) (.cond (.t 35) (.reg [⟨some 5,.mov (.c (Go.Value.int Go.IntKind.i64 7)),none⟩] [0,3,4,5]) .skip))
def R09_Writer_Bytes_i1 : IC := (.seq (.seq (.reg [⟨some 17,.mov (.t 4),none⟩,
⟨some 18,.mov (.t 0),none⟩,
⟨some 19,.nilc (.t 18),none⟩,
⟨some 20,.fad 1 (.t 19),none⟩,
⟨some 21,.ld (.sc .slc) (.t 20),none⟩,
⟨some 22,.len false (.t 21),none⟩,
⟨some 23,.cmp .lss (.t 17) (.t 22),none⟩] [0,3,4,23]) (.cond (.t 23) .skip (.exit 0))) (.block 1 (.seq (.reg [⟨some 5,.mov (.c (Go.Value.int Go.IntKind.i64 8)),none⟩] [0,3,4,5]) (.seq (.opq 2 [0,3,4,5] R09_Writer_Bytes_i2) (.seq (.reg [⟨some 6,.mov (.c (Go.Value.int Go.IntKind.i64 0)),none⟩] [0,3,4,5,6]) (.seq (.seq (.reg [⟨some 7,.mov (.c (Go.Value.int Go.IntKind.i64 0)),none⟩] [0,3,4,5,6,7]) (.block 2 (.opq 3 [0,3,4,5,6,7] (.loop R09_Writer_Bytes_i3)))) (.reg [⟨some 61,.mov (.t 3),none⟩,
⟨some 62,.mov (.t 6),none⟩,
⟨some 63,.cnv .u8 (.t 62),none⟩,
⟨some 64,.bls 1 [.int .u8 0] [(0,1,(.t 63))],none⟩,
⟨some 65,.app [.int .u8 0] 1 (.t 61) (.t 64),none⟩,
⟨some 3,.mov (.t 65),none⟩] [0,3,4])))))))
def R09_Writer_Bytes_i0 : IC := (.seq (.reg [⟨some 8,.mov (.t 0),none⟩,
⟨some 9,.eqnil (.t 8) false 0,none⟩,
⟨some 10,.mov (.t 9),none⟩,
⟨some 11,.mov (.t 0),some (10,false)⟩,
⟨some 12,.nilc (.t 11),some (10,false)⟩,
⟨some 13,.fad 0 (.t 12),some (10,false)⟩,
⟨some 14,.ld (.sc .bool) (.t 13),some (10,false)⟩,
⟨some 15,.lnot (.t 14),some (10,false)⟩,
⟨some 16,.pick (.t 10) (.c (Go.Value.bool true)) (.t 15),none⟩] [0,16]) (.cond (.t 16) (.seq (.reg [⟨some 2,.mov (.c (Go.Value.slice none 0 0)),none⟩] [2]) .ret) .skip))
def R09_Writer_Bytes_f : IFn := ⟨82,[.t 2],(.seq (.reg [⟨some 2,.mov (.c (Go.Value.slice none 0 0)),none⟩] [0]) (.seq (.opq 0 [0] R09_Writer_Bytes_i0) (.seq (.reg [⟨some 3,.mov (.c (Go.Value.slice none 0 0)),none⟩] [0,3]) (.seq (.seq (.reg [⟨some 4,.mov (.c (Go.Value.int Go.IntKind.i64 0)),none⟩] [0,3,4]) (.block 0 (.opq 1 [0,3,4] (.loop R09_Writer_Bytes_i1)))) (.seq (.seq (.opq 5 [3] R09_Writer_Bytes_i5) (.cond (.t 77) (.reg [⟨some 78,.mov (.t 3),none⟩,
⟨some 79,.bls 1 [.int .u8 0] [(0,1,(.c (Go.Value.int Go.IntKind.u8 0)))],none⟩,
⟨some 80,.app [.int .u8 0] 1 (.t 78) (.t 79),none⟩,
⟨some 3,.mov (.t 80),none⟩] [3]) .skip)) (.seq (.reg [⟨some 81,.mov (.t 3),none⟩,
⟨some 2,.mov (.t 81),none⟩] [2]) .ret))))))⟩
theorem R09_Writer_Bytes_e5 {R : Type} (R09_Writer_Bytes_p0 : R09_Writer_Bytes_p0_t R) (R09_Writer_Bytes_l1 : R09_Writer_Bytes_l1_t R) (R09_Writer_Bytes_p2 : R09_Writer_Bytes_p2_t R) (R09_Writer_Bytes_l3 : R09_Writer_Bytes_l3_t R) (R09_Writer_Bytes_p4 : R09_Writer_Bytes_p4_t R) (R09_Writer_Bytes_p5 : R09_Writer_Bytes_p5_t R) (k : Nat) (q345 : Oa) (l346 : Nat) (c347 : Nat) (H : Heap) (K : Xit → Env → Heap → Option R) : evJ (R09_Writer_Bytes_Ct) (R09_Writer_Bytes_Jt k R09_Writer_Bytes_p0 R09_Writer_Bytes_l1 R09_Writer_Bytes_p2 R09_Writer_Bytes_l3 R09_Writer_Bytes_p4 R09_Writer_Bytes_p5) R09_Writer_Bytes_i5 (List.zip [3] [.slice q345 l346 c347]) H (fun x e' H' => K x (clean e' ((⟨[3,77],[],[]⟩ : Out).of x)) H') = R09_Writer_Bytes_p5_b k q345 l346 c347 H (fun q1727 l1728 c1729 t1730 => K .normal [(3,.slice q1727 l1728 c1729),(77,.bool t1730)] H) := by kernel_rfl
theorem R09_Writer_Bytes_j5 {R : Type} (k : Nat) : JS Try.prog 82 (R09_Writer_Bytes_a5 R k k) [3] ⟨[3,77],[],[]⟩ (sel [1,1,1,1,0,0] (Try.f29.body.getD .skip)) :=
  piece_ok (nt := 82) (c := (sel [1,1,1,1,0,0] (Try.f29.body.getD .skip))) (C := R09_Writer_Bytes_C R k) (an := An) (t := (.reg [3,77] [])) (ic := R09_Writer_Bytes_i5) (R09_Writer_Bytes_S R k) (R09_Writer_Bytes_J R k) (by kernel_rfl) True.intro (R09_Writer_Bytes_a5 R k k)
    (fun vals H K r h => by
      unfold R09_Writer_Bytes_a5 R09_Writer_Bytes_aa5 at h
      split at h <;> first | (cases h; done) | exact Eq.trans (R09_Writer_Bytes_e5 (R09_Writer_Bytes_p0 k) (R09_Writer_Bytes_l1 k) (R09_Writer_Bytes_p2 k) (R09_Writer_Bytes_l3 k) (R09_Writer_Bytes_p4 k) (R09_Writer_Bytes_p5 k) k _ _ _ H K) h)
theorem R09_Writer_Bytes_e4 {R : Type} (R09_Writer_Bytes_p0 : R09_Writer_Bytes_p0_t R) (R09_Writer_Bytes_l1 : R09_Writer_Bytes_l1_t R) (R09_Writer_Bytes_p2 : R09_Writer_Bytes_p2_t R) (R09_Writer_Bytes_l3 : R09_Writer_Bytes_l3_t R) (R09_Writer_Bytes_p4 : R09_Writer_Bytes_p4_t R) (R09_Writer_Bytes_p5 : R09_Writer_Bytes_p5_t R) (k : Nat) (p284 : Oa) (q285 : Oa) (l286 : Nat) (c287 : Nat) (n288 : Int) (n289 : Int) (n290 : Int) (n291 : Int) (H : Heap) (K : Xit → Env → Heap → Option R) : evJ (R09_Writer_Bytes_Ct) (R09_Writer_Bytes_Jt k R09_Writer_Bytes_p0 R09_Writer_Bytes_l1 R09_Writer_Bytes_p2 R09_Writer_Bytes_l3 R09_Writer_Bytes_p4 R09_Writer_Bytes_p5) R09_Writer_Bytes_i4 (List.zip [0,3,4,5,6,7] [.pointer p284,.slice q285 l286 c287,.int .i64 n288,.int .i64 n289,.int .i64 n290,.int .i64 n291]) H (fun x e' H' => K x (clean e' ((⟨[0,3,4,5,6,7],[],[]⟩ : Out).of x)) H') = R09_Writer_Bytes_p4_b k p284 q285 l286 c287 n288 n289 n290 n291 H (fun p1719 q1720 l1721 c1722 n1723 n1724 n1725 n1726 => K .normal [(0,.pointer p1719),(3,.slice q1720 l1721 c1722),(4,.int .i64 n1723),(5,.int .i64 n1724),(6,.int .i64 n1725),(7,.int .i64 n1726)] H) := by kernel_rfl
theorem R09_Writer_Bytes_j4 {R : Type} (k : Nat) : JS Try.prog 82 (R09_Writer_Bytes_a4 R k k) [0,3,4,5,6,7] ⟨[0,3,4,5,6,7],[],[]⟩ (sel [1,1,1,0,1,0,0,1,0,1,1,1,0,1,0,0,1,0,0,1,0] (Try.f29.body.getD .skip)) :=
  piece_ok (nt := 82) (c := (sel [1,1,1,0,1,0,0,1,0,1,1,1,0,1,0,0,1,0,0,1,0] (Try.f29.body.getD .skip))) (C := R09_Writer_Bytes_C R k) (an := An) (t := (.seq (.reg [0,3,4,5,6,7,49] []) (.cond (.reg [0,3,4,5,6,7] []) .leaf))) (ic := R09_Writer_Bytes_i4) (R09_Writer_Bytes_S R k) (R09_Writer_Bytes_J R k) (by kernel_rfl) (And.intro True.intro (And.intro True.intro True.intro)) (R09_Writer_Bytes_a4 R k k)
    (fun vals H K r h => by
      unfold R09_Writer_Bytes_a4 R09_Writer_Bytes_aa4 at h
      split at h <;> first | (cases h; done) | exact Eq.trans (R09_Writer_Bytes_e4 (R09_Writer_Bytes_p0 k) (R09_Writer_Bytes_l1 k) (R09_Writer_Bytes_p2 k) (R09_Writer_Bytes_l3 k) (R09_Writer_Bytes_p4 k) (R09_Writer_Bytes_p5 k) k _ _ _ _ _ _ _ _ H K) h)
theorem R09_Writer_Bytes_e3 {R : Type} (R09_Writer_Bytes_p0 : R09_Writer_Bytes_p0_t R) (R09_Writer_Bytes_l1 : R09_Writer_Bytes_l1_t R) (R09_Writer_Bytes_p2 : R09_Writer_Bytes_p2_t R) (R09_Writer_Bytes_l3 : R09_Writer_Bytes_l3_t R) (R09_Writer_Bytes_p4 : R09_Writer_Bytes_p4_t R) (R09_Writer_Bytes_p5 : R09_Writer_Bytes_p5_t R) (k n : Nat) (p276 : Oa) (q277 : Oa) (l278 : Nat) (c279 : Nat) (n280 : Int) (n281 : Int) (n282 : Int) (n283 : Int) (H : Heap) (K : Xit → Env → Heap → Option R) : evJ (R09_Writer_Bytes_Ct) (R09_Writer_Bytes_Jt k R09_Writer_Bytes_p0 R09_Writer_Bytes_l1 R09_Writer_Bytes_p2 R09_Writer_Bytes_l3 R09_Writer_Bytes_p4 R09_Writer_Bytes_p5) R09_Writer_Bytes_i3 (List.zip [0,3,4,5,6,7] [.pointer p276,.slice q277 l278 c279,.int .i64 n280,.int .i64 n281,.int .i64 n282,.int .i64 n283]) H (fun x e' H' => match x with | .normal => R09_Writer_Bytes_aa3 R09_Writer_Bytes_l3 n ((clean e' [0,3,4,5,6,7]).map (·.2)) H' K | x => K x (clean e' ((⟨[],[(2,[0,3,4,6])],[]⟩ : Out).of x)) H') = R09_Writer_Bytes_l3_b R09_Writer_Bytes_p4 (R09_Writer_Bytes_l3 (fun p1713 q1714 l1715 c1716 n1717 n1718 => K (.exit 2) [(0,.pointer p1713),(3,.slice q1714 l1715 c1716),(4,.int .i64 n1717),(6,.int .i64 n1718)] H) n) (fun p1713 q1714 l1715 c1716 n1717 n1718 => K (.exit 2) [(0,.pointer p1713),(3,.slice q1714 l1715 c1716),(4,.int .i64 n1717),(6,.int .i64 n1718)] H) k p276 q277 l278 c279 n280 n281 n282 n283 H := by kernel_rfl
theorem R09_Writer_Bytes_j3 {R : Type} (k : Nat) : JS Try.prog 82 (R09_Writer_Bytes_a3 R k k) [0,3,4,5,6,7] ⟨[],[(2,[0,3,4,6])],[]⟩ (.loop (sel [1,1,1,0,1,0,0,1,0,1,1,1,0,1,0,0] (Try.f29.body.getD .skip))) :=
  loop_ok (nt := 82) (c := (sel [1,1,1,0,1,0,0,1,0,1,1,1,0,1,0,0] (Try.f29.body.getD .skip))) (C := R09_Writer_Bytes_C R k) (an := An) (t := (.seq (.seq (.reg [0,3,4,5,6,7,38] []) (.cond .leaf .leaf)) (.seq (.node (.seq (.reg [0,3,4,5,6,7] []) (.seq (.opq 4 [0,3,4,5,6,7] ⟨[0,3,4,5,6,7],[],[]⟩ (.seq (.reg [0,3,4,5,6,7,49] []) (.cond (.reg [0,3,4,5,6,7] []) .leaf))) (.reg [0,3,4,5,6,7] [])))) (.reg [0,3,4,5,6,7] [])))) (ic := R09_Writer_Bytes_i3) (R09_Writer_Bytes_S R k) (R09_Writer_Bytes_J R k) (by kernel_rfl) (And.intro (And.intro True.intro (And.intro True.intro True.intro)) (And.intro (And.intro True.intro (And.intro (R09_Writer_Bytes_j4 k) True.intro)) True.intro)) (R09_Writer_Bytes_a3 R k) (fun vals H K => by unfold R09_Writer_Bytes_a3 R09_Writer_Bytes_aa3; split <;> rfl)
    (fun n vals H K r h => by
      unfold R09_Writer_Bytes_a3 R09_Writer_Bytes_aa3 at h
      split at h <;> first | (cases h; done) | exact Eq.trans (R09_Writer_Bytes_e3 (R09_Writer_Bytes_p0 k) (R09_Writer_Bytes_l1 k) (R09_Writer_Bytes_p2 k) (R09_Writer_Bytes_l3 k) (R09_Writer_Bytes_p4 k) (R09_Writer_Bytes_p5 k) k n _ _ _ _ _ _ _ _ H K) h) k
theorem R09_Writer_Bytes_e2 {R : Type} (R09_Writer_Bytes_p0 : R09_Writer_Bytes_p0_t R) (R09_Writer_Bytes_l1 : R09_Writer_Bytes_l1_t R) (R09_Writer_Bytes_p2 : R09_Writer_Bytes_p2_t R) (R09_Writer_Bytes_l3 : R09_Writer_Bytes_l3_t R) (R09_Writer_Bytes_p4 : R09_Writer_Bytes_p4_t R) (R09_Writer_Bytes_p5 : R09_Writer_Bytes_p5_t R) (k : Nat) (p256 : Oa) (q257 : Oa) (l258 : Nat) (c259 : Nat) (n260 : Int) (n261 : Int) (H : Heap) (K : Xit → Env → Heap → Option R) : evJ (R09_Writer_Bytes_Ct) (R09_Writer_Bytes_Jt k R09_Writer_Bytes_p0 R09_Writer_Bytes_l1 R09_Writer_Bytes_p2 R09_Writer_Bytes_l3 R09_Writer_Bytes_p4 R09_Writer_Bytes_p5) R09_Writer_Bytes_i2 (List.zip [0,3,4,5] [.pointer p256,.slice q257 l258 c259,.int .i64 n260,.int .i64 n261]) H (fun x e' H' => K x (clean e' ((⟨[0,3,4,5],[],[]⟩ : Out).of x)) H') = R09_Writer_Bytes_p2_b k p256 q257 l258 c259 n260 n261 H (fun p1707 q1708 l1709 c1710 n1711 n1712 => K .normal [(0,.pointer p1707),(3,.slice q1708 l1709 c1710),(4,.int .i64 n1711),(5,.int .i64 n1712)] H) := by kernel_rfl
theorem R09_Writer_Bytes_j2 {R : Type} (k : Nat) : JS Try.prog 82 (R09_Writer_Bytes_a2 R k k) [0,3,4,5] ⟨[0,3,4,5],[],[]⟩ (sel [1,1,1,0,1,0,0,1,0,1,0] (Try.f29.body.getD .skip)) :=
  piece_ok (nt := 82) (c := (sel [1,1,1,0,1,0,0,1,0,1,0] (Try.f29.body.getD .skip))) (C := R09_Writer_Bytes_C R k) (an := An) (t := (.seq (.reg [0,3,4,5,35] []) (.cond (.reg [0,3,4,5] []) .leaf))) (ic := R09_Writer_Bytes_i2) (R09_Writer_Bytes_S R k) (R09_Writer_Bytes_J R k) (by kernel_rfl) (And.intro True.intro (And.intro True.intro True.intro)) (R09_Writer_Bytes_a2 R k k)
    (fun vals H K r h => by
      unfold R09_Writer_Bytes_a2 R09_Writer_Bytes_aa2 at h
      split at h <;> first | (cases h; done) | exact Eq.trans (R09_Writer_Bytes_e2 (R09_Writer_Bytes_p0 k) (R09_Writer_Bytes_l1 k) (R09_Writer_Bytes_p2 k) (R09_Writer_Bytes_l3 k) (R09_Writer_Bytes_p4 k) (R09_Writer_Bytes_p5 k) k _ _ _ _ _ _ H K) h)
theorem R09_Writer_Bytes_e1 {R : Type} (R09_Writer_Bytes_p0 : R09_Writer_Bytes_p0_t R) (R09_Writer_Bytes_l1 : R09_Writer_Bytes_l1_t R) (R09_Writer_Bytes_p2 : R09_Writer_Bytes_p2_t R) (R09_Writer_Bytes_l3 : R09_Writer_Bytes_l3_t R) (R09_Writer_Bytes_p4 : R09_Writer_Bytes_p4_t R) (R09_Writer_Bytes_p5 : R09_Writer_Bytes_p5_t R) (k n : Nat) (p246 : Oa) (q247 : Oa) (l248 : Nat) (c249 : Nat) (n250 : Int) (H : Heap) (K : Xit → Env → Heap → Option R) : evJ (R09_Writer_Bytes_Ct) (R09_Writer_Bytes_Jt k R09_Writer_Bytes_p0 R09_Writer_Bytes_l1 R09_Writer_Bytes_p2 R09_Writer_Bytes_l3 R09_Writer_Bytes_p4 R09_Writer_Bytes_p5) R09_Writer_Bytes_i1 (List.zip [0,3,4] [.pointer p246,.slice q247 l248 c249,.int .i64 n250]) H (fun x e' H' => match x with | .normal => R09_Writer_Bytes_aa1 R09_Writer_Bytes_l1 n ((clean e' [0,3,4]).map (·.2)) H' K | x => K x (clean e' ((⟨[],[(0,[3])],[]⟩ : Out).of x)) H') = R09_Writer_Bytes_l1_b R09_Writer_Bytes_p2 R09_Writer_Bytes_l3 (R09_Writer_Bytes_l1 (fun q1704 l1705 c1706 H => K (.exit 0) [(3,.slice q1704 l1705 c1706)] H) n) (fun q1704 l1705 c1706 H => K (.exit 0) [(3,.slice q1704 l1705 c1706)] H) k p246 q247 l248 c249 n250 H := by kernel_rfl
theorem R09_Writer_Bytes_j1 {R : Type} (k : Nat) : JS Try.prog 82 (R09_Writer_Bytes_a1 R k k) [0,3,4] ⟨[],[(0,[3])],[]⟩ (.loop (sel [1,1,1,0,1,0,0] (Try.f29.body.getD .skip))) :=
  loop_ok (nt := 82) (c := (sel [1,1,1,0,1,0,0] (Try.f29.body.getD .skip))) (C := R09_Writer_Bytes_C R k) (an := An) (t := (.seq (.seq (.reg [0,3,4,23] []) (.cond .leaf .leaf)) (.node (.seq (.reg [0,3,4,5] []) (.seq (.opq 2 [0,3,4,5] ⟨[0,3,4,5],[],[]⟩ (.seq (.reg [0,3,4,5,35] []) (.cond (.reg [0,3,4,5] []) .leaf))) (.seq (.reg [0,3,4,5,6] []) (.seq (.seq (.reg [0,3,4,5,6,7] []) (.node (.opq 3 [0,3,4,5,6,7] ⟨[],[(2,[0,3,4,6])],[]⟩ (.node (.seq (.seq (.reg [0,3,4,5,6,7,38] []) (.cond .leaf .leaf)) (.seq (.node (.seq (.reg [0,3,4,5,6,7] []) (.seq (.opq 4 [0,3,4,5,6,7] ⟨[0,3,4,5,6,7],[],[]⟩ (.seq (.reg [0,3,4,5,6,7,49] []) (.cond (.reg [0,3,4,5,6,7] []) .leaf))) (.reg [0,3,4,5,6,7] [])))) (.reg [0,3,4,5,6,7] []))))))) (.reg [0,3,4] [])))))))) (ic := R09_Writer_Bytes_i1) (R09_Writer_Bytes_S R k) (R09_Writer_Bytes_J R k) (by kernel_rfl) (And.intro (And.intro True.intro (And.intro True.intro True.intro)) (And.intro True.intro (And.intro (R09_Writer_Bytes_j2 k) (And.intro True.intro (And.intro (And.intro True.intro (R09_Writer_Bytes_j3 k)) True.intro))))) (R09_Writer_Bytes_a1 R k) (fun vals H K => by unfold R09_Writer_Bytes_a1 R09_Writer_Bytes_aa1; split <;> rfl)
    (fun n vals H K r h => by
      unfold R09_Writer_Bytes_a1 R09_Writer_Bytes_aa1 at h
      split at h <;> first | (cases h; done) | exact Eq.trans (R09_Writer_Bytes_e1 (R09_Writer_Bytes_p0 k) (R09_Writer_Bytes_l1 k) (R09_Writer_Bytes_p2 k) (R09_Writer_Bytes_l3 k) (R09_Writer_Bytes_p4 k) (R09_Writer_Bytes_p5 k) k n _ _ _ _ _ H K) h) k
theorem R09_Writer_Bytes_e0 {R : Type} (R09_Writer_Bytes_p0 : R09_Writer_Bytes_p0_t R) (R09_Writer_Bytes_l1 : R09_Writer_Bytes_l1_t R) (R09_Writer_Bytes_p2 : R09_Writer_Bytes_p2_t R) (R09_Writer_Bytes_l3 : R09_Writer_Bytes_l3_t R) (R09_Writer_Bytes_p4 : R09_Writer_Bytes_p4_t R) (R09_Writer_Bytes_p5 : R09_Writer_Bytes_p5_t R) (k : Nat) (p237 : Oa) (H : Heap) (K : Xit → Env → Heap → Option R) : evJ (R09_Writer_Bytes_Ct) (R09_Writer_Bytes_Jt k R09_Writer_Bytes_p0 R09_Writer_Bytes_l1 R09_Writer_Bytes_p2 R09_Writer_Bytes_l3 R09_Writer_Bytes_p4 R09_Writer_Bytes_p5) R09_Writer_Bytes_i0 (List.zip [0] [.pointer p237]) H (fun x e' H' => K x (clean e' ((⟨[0],[],[2]⟩ : Out).of x)) H') = R09_Writer_Bytes_p0_b k p237 H (fun p1700 => K .normal [(0,.pointer p1700)] H) (fun q1701 l1702 c1703 => K .ret [(2,.slice q1701 l1702 c1703)] H) := by kernel_rfl
theorem R09_Writer_Bytes_j0 {R : Type} (k : Nat) : JS Try.prog 82 (R09_Writer_Bytes_a0 R k k) [0] ⟨[0],[],[2]⟩ (sel [1,0] (Try.f29.body.getD .skip)) :=
  piece_ok (nt := 82) (c := (sel [1,0] (Try.f29.body.getD .skip))) (C := R09_Writer_Bytes_C R k) (an := An) (t := (.seq (.reg [0,16] []) (.cond (.seq (.reg [2] []) .leaf) .leaf))) (ic := R09_Writer_Bytes_i0) (R09_Writer_Bytes_S R k) (R09_Writer_Bytes_J R k) (by kernel_rfl) (And.intro True.intro (And.intro (And.intro True.intro True.intro) True.intro)) (R09_Writer_Bytes_a0 R k k)
    (fun vals H K r h => by
      unfold R09_Writer_Bytes_a0 R09_Writer_Bytes_aa0 at h
      split at h <;> first | (cases h; done) | exact Eq.trans (R09_Writer_Bytes_e0 (R09_Writer_Bytes_p0 k) (R09_Writer_Bytes_l1 k) (R09_Writer_Bytes_p2 k) (R09_Writer_Bytes_l3 k) (R09_Writer_Bytes_p4 k) (R09_Writer_Bytes_p5 k) k _ H K) h)
def R09_Writer_Bytes_ca {R : Type} (f : R09_Writer_Bytes_t R) (args : List Value) (H : Heap) (K : Value → Heap → Option R) : Option R :=
  match args with
  | [.pointer p236] => f p236 H (fun q1731 l1732 c1733 H => K (.slice q1731 l1732 c1733) H)
  | _ => none
def R09_Writer_Bytes_c (R : Type) (k : Nat) (args : List Value) (H : Heap) (K : Value → Heap → Option R) : Option R := R09_Writer_Bytes_ca (R09_Writer_Bytes k) args H K
theorem R09_Writer_Bytes_e {R : Type} (R09_Writer_Bytes_p0 : R09_Writer_Bytes_p0_t R) (R09_Writer_Bytes_l1 : R09_Writer_Bytes_l1_t R) (R09_Writer_Bytes_p2 : R09_Writer_Bytes_p2_t R) (R09_Writer_Bytes_l3 : R09_Writer_Bytes_l3_t R) (R09_Writer_Bytes_p4 : R09_Writer_Bytes_p4_t R) (R09_Writer_Bytes_p5 : R09_Writer_Bytes_p5_t R) (k : Nat) (p236 : Oa) (H : Heap) (K : Value → Heap → Option R) : evF (R09_Writer_Bytes_Ct) (R09_Writer_Bytes_Jt k R09_Writer_Bytes_p0 R09_Writer_Bytes_l1 R09_Writer_Bytes_p2 R09_Writer_Bytes_l3 R09_Writer_Bytes_p4 R09_Writer_Bytes_p5) R09_Writer_Bytes_f [.pointer p236] H K = R09_Writer_Bytes_b R09_Writer_Bytes_p0 R09_Writer_Bytes_l1 R09_Writer_Bytes_p5 k p236 H (fun q1731 l1732 c1733 H => K (.slice q1731 l1732 c1733) H) := by kernel_rfl
theorem R09_Writer_Bytes_cs (R : Type) (k : Nat) : ∀ args H K r,R09_Writer_Bytes_c R k args H K = some r → ∃ v H',Tri Try.prog 29 args H v H' ∧ K v H' = some r := by
  intro args H K r h
  unfold R09_Writer_Bytes_c R09_Writer_Bytes_ca at h
  split at h
  · exact evF_ok (C := R09_Writer_Bytes_C R k) (an := An) (t := R09_Writer_Bytes_at) (fn := Try.f29) (c := (Try.f29.body.getD .skip)) (ifn := R09_Writer_Bytes_f) (R09_Writer_Bytes_S R k) (R09_Writer_Bytes_J R k) Try.func29 (by kernel_rfl) (by kernel_rfl) (And.intro True.intro (And.intro (R09_Writer_Bytes_j0 k) (And.intro True.intro (And.intro (And.intro True.intro (R09_Writer_Bytes_j1 k)) (And.intro (And.intro (R09_Writer_Bytes_j5 k) (And.intro True.intro True.intro)) (And.intro True.intro True.intro)))))) rfl (Eq.trans (R09_Writer_Bytes_e (R09_Writer_Bytes_p0 k) (R09_Writer_Bytes_l1 k) (R09_Writer_Bytes_p2 k) (R09_Writer_Bytes_l3 k) (R09_Writer_Bytes_p4 k) (R09_Writer_Bytes_p5 k) k _ H K) h)
  · cases h
/-! ### L_TagtreeWrites: function 4 -/
abbrev L_TagtreeWrites_p1_t (R : Type) : Type := Oa → Oa → Oa → Oa → Oa → Nat → Nat → Int → Int → Heap → (Oa → Oa → Oa → Oa → Oa → Nat → Nat → Int → Int → Heap → Option R) → (Bool → Heap → Option R) → Option R
def L_TagtreeWrites_p1_b {R : Type} (tagtree_Tree_Set : tagtree_Tree_Set_t R) (R10_Tree_Set : R10_Tree_Set_t R) (tagtree_Tree_Encode : tagtree_Tree_Encode_t R) (R10_Tree_Encode : R10_Tree_Encode_t R) (bitio_Writer_Len : bitio_Writer_Len_t R) (R09_Writer_Len : R09_Writer_Len_t R) (tagtree_Tree_Value : tagtree_Tree_Value_t R) (R10_Tree_Value : R10_Tree_Value_t R) (k : Nat) (p41 : Oa) (p42 : Oa) (p43 : Oa) (p44 : Oa) (q45 : Oa) (l46 : Nat) (c47 : Nat) (n48 : Int) (n49 : Int) (H : Heap) (KN : Oa → Oa → Oa → Oa → Oa → Nat → Nat → Int → Int → Heap → Option R) (KR : Bool → Heap → Option R) : Option R :=
hidx q45 l46 n49 4 fun p50 =>
ldI .i64 H (pad p50 0) fun n51 =>
ldI .i64 H (pad p50 1) fun n52 =>
ldI .i64 H (pad p50 2) fun n53 =>
ldI .i64 H (pad p50 3) fun n54 =>
hal H [.int .i64 0,.int .i64 0,.int .i64 0,.int .i64 0] fun p55 H56 =>
hst H56 p55 [.int .i64 n51,.int .i64 n52,.int .i64 n53,.int .i64 n54] fun H57 =>
hfad 0 p55 fun p58 =>
ldI .i64 H57 p58 fun n59 =>
bif (n59 == 0) then (hfrz H57 p55 fun H60 =>
hfad 1 p55 fun p61 =>
ldI .i64 H60 p61 fun n62 =>
hfad 2 p55 fun p63 =>
ldI .i64 H60 p63 fun n64 =>
hfad 3 p55 fun p65 =>
ldI .i64 H60 p65 fun n66 =>
tagtree_Tree_Set p41 n62 n64 n66 H60 fun n67 H68 =>
hfad 1 p55 fun p69 =>
bif isRo H60 p69 then (ldI .i64 H60 p69 fun n70 =>
hfad 2 p55 fun p71 =>
bif isRo H60 p71 then (ldI .i64 H60 p71 fun n72 =>
hfad 3 p55 fun p73 =>
bif isRo H60 p73 then (ldI .i64 H60 p73 fun n74 =>
R10_Tree_Set p42 n70 n72 n74 H68 fun n75 H76 =>
bif (n67 != n75) then (KR false H76)
 else (KN p41 p42 p43 p44 q45 l46 c47 n48 n49 H76))
 else none)
 else none)
 else none)
 else (bif (n59 == 1) then (hfrz H57 p55 fun H77 =>
hfad 1 p55 fun p78 =>
ldI .i64 H77 p78 fun n79 =>
hfad 2 p55 fun p80 =>
ldI .i64 H77 p80 fun n81 =>
hfad 3 p55 fun p82 =>
ldI .i64 H77 p82 fun n83 =>
tagtree_Tree_Encode p41 p43 n79 n81 n83 H77 fun n84 H85 =>
hfad 1 p55 fun p86 =>
bif isRo H77 p86 then (ldI .i64 H77 p86 fun n87 =>
hfad 2 p55 fun p88 =>
bif isRo H77 p88 then (ldI .i64 H77 p88 fun n89 =>
hfad 3 p55 fun p90 =>
bif isRo H77 p90 then (ldI .i64 H77 p90 fun n91 =>
R10_Tree_Encode p42 p44 n87 n89 n91 H85 fun n92 H93 =>
bif (n84 != n92) then (KR false H93)
 else (bitio_Writer_Len p43 H93 fun n94 =>
R09_Writer_Len p44 H93 fun n95 =>
bif (n94 != n95) then (KR false H93)
 else (KN p41 p42 p43 p44 q45 l46 c47 n48 n49 H93)))
 else none)
 else none)
 else none)
 else (bif (n59 == 2) then (hfad 1 p55 fun p96 =>
ldI .i64 H57 p96 fun n97 =>
hfad 2 p55 fun p98 =>
ldI .i64 H57 p98 fun n99 =>
tagtree_Tree_Value p41 n97 n99 H57 fun n100 t101 H102 =>
hfad 1 p55 fun p103 =>
ldI .i64 H102 p103 fun n104 =>
hfad 2 p55 fun p105 =>
ldI .i64 H102 p105 fun n106 =>
R10_Tree_Value p42 n104 n106 H102 fun n107 t108 =>
bif (n100 != n107) then (KR false H102)
 else (bif !(t101 == t108) then (KR false H102)
 else (KN p41 p42 p43 p44 q45 l46 c47 n48 n49 H102)))
 else (KN p41 p42 p43 p44 q45 l46 c47 n48 n49 H57)))
def L_TagtreeWrites_p1 {R : Type} (k : Nat) (p41 : Oa) (p42 : Oa) (p43 : Oa) (p44 : Oa) (q45 : Oa) (l46 : Nat) (c47 : Nat) (n48 : Int) (n49 : Int) (H : Heap) (KN : Oa → Oa → Oa → Oa → Oa → Nat → Nat → Int → Int → Heap → Option R) (KR : Bool → Heap → Option R) : Option R := L_TagtreeWrites_p1_b (tagtree_Tree_Set k) (R10_Tree_Set k) (tagtree_Tree_Encode k) (R10_Tree_Encode k) bitio_Writer_Len (R09_Writer_Len k) (tagtree_Tree_Value k) (R10_Tree_Value k) k p41 p42 p43 p44 q45 l46 c47 n48 n49 H KN KR

abbrev L_TagtreeWrites_l0_t (R : Type) : Type := (Oa → Oa → Heap → Option R) → (Bool → Heap → Option R) → Nat → Oa → Oa → Oa → Oa → Oa → Nat → Nat → Int → Int → Heap → Option R
def L_TagtreeWrites_l0_b {R : Type} (L_TagtreeWrites_p1 : L_TagtreeWrites_p1_t R) (rec : Oa → Oa → Oa → Oa → Oa → Nat → Nat → Int → Int → Heap → Option R) (KE0 : Oa → Oa → Heap → Option R) (KR : Bool → Heap → Option R) (k : Nat) (p32 : Oa) (p33 : Oa) (p34 : Oa) (p35 : Oa) (q36 : Oa) (l37 : Nat) (c38 : Nat) (n39 : Int) (n40 : Int) (H : Heap) : Option R :=
bif decide (n40 < n39) then (L_TagtreeWrites_p1 p32 p33 p34 p35 q36 l37 c38 n39 n40 H (fun p119 p120 p121 p122 q123 l124 c125 n126 n127 H128 =>
rec p119 p120 p121 p122 q123 l124 c125 n126 (IntKind.wrap .i64 (n127 + 1)) H128) (fun t129 H130 =>
KR t129 H130))
 else (KE0 p34 p35 H)
def L_TagtreeWrites_l0 {R : Type} (k : Nat) (KE0 : Oa → Oa → Heap → Option R) (KR : Bool → Heap → Option R) : Nat → Oa → Oa → Oa → Oa → Oa → Nat → Nat → Int → Int → Heap → Option R
  | 0,_,_,_,_,_,_,_,_,_,_ => none
  | n + 1,p32,p33,p34,p35,q36,l37,c38,n39,n40,H => L_TagtreeWrites_l0_b (L_TagtreeWrites_p1 k) (L_TagtreeWrites_l0 k KE0 KR n) KE0 KR k p32 p33 p34 p35 q36 l37 c38 n39 n40 H

abbrev L_TagtreeWrites_t (R : Type) : Type := Int → Int → Oa → Nat → Nat → Heap → (Bool → Heap → Option R) → Option R

def L_TagtreeWrites_b {R : Type} (L_small : L_small_t R) (L_exampleHoldsq : L_exampleHoldsq_t R) (tagtree_New : tagtree_New_t R) (R10_New : R10_New_t R) (bitio_NewWriter : bitio_NewWriter_t R) (R09_NewWriter : R09_NewWriter_t R) (L_TagtreeWrites_l0 : L_TagtreeWrites_l0_t R) (bitio_Writer_Bytes : bitio_Writer_Bytes_t R) (R09_Writer_Bytes : R09_Writer_Bytes_t R) (R09_SameBytes : R09_SameBytes_t R) (k : Nat) (n14 : Int) (n15 : Int) (q16 : Oa) (l17 : Nat) (c18 : Nat) (H : Heap) (K : Bool → Heap → Option R) : Option R :=
L_small n14 n15 q16 l17 c18 H fun t19 H20 =>
bif (!t19) then (L_exampleHoldsq fun t21 =>
K t21 H20)
 else (tagtree_New n14 n15 H20 fun p22 n23 H24 =>
R10_New n14 n15 H24 fun p25 n26 H27 =>
bif (n23 != n26) then (K false H27)
 else (bitio_NewWriter H27 fun p28 H29 =>
R09_NewWriter H29 fun p30 H31 =>
L_TagtreeWrites_l0 (fun p134 p135 H136 =>
bitio_Writer_Bytes p134 H136 fun q137 l138 c139 H140 =>
R09_Writer_Bytes p135 H140 fun q141 l142 c143 H144 =>
R09_SameBytes q137 l138 c139 q141 l142 c143 H144 fun t145 =>
bif t145 then (L_exampleHoldsq fun t146 =>
K t146 H144)
 else (K false H144)) (fun t147 H148 =>
K t147 H148) k p22 p25 p28 p30 q16 l17 c18 ((l17 : Nat) : Int) 0 H31))

def L_TagtreeWrites {R : Type} (k : Nat) (n14 : Int) (n15 : Int) (q16 : Oa) (l17 : Nat) (c18 : Nat) (H : Heap) (K : Bool → Heap → Option R) : Option R := L_TagtreeWrites_b (L_small k) L_exampleHoldsq (tagtree_New k) (R10_New k) bitio_NewWriter R09_NewWriter (L_TagtreeWrites_l0 k) (bitio_Writer_Bytes k) (R09_Writer_Bytes k) R09_SameBytes k n14 n15 q16 l17 c18 H K

def L_TagtreeWrites_Ct {R : Type} (L_small : L_small_t R) (L_exampleHoldsq : L_exampleHoldsq_t R) (tagtree_New : tagtree_New_t R) (R10_New : R10_New_t R) (bitio_NewWriter : bitio_NewWriter_t R) (R09_NewWriter : R09_NewWriter_t R) (tagtree_Tree_Set : tagtree_Tree_Set_t R) (R10_Tree_Set : R10_Tree_Set_t R) (tagtree_Tree_Encode : tagtree_Tree_Encode_t R) (R10_Tree_Encode : R10_Tree_Encode_t R) (bitio_Writer_Len : bitio_Writer_Len_t R) (R09_Writer_Len : R09_Writer_Len_t R) (tagtree_Tree_Value : tagtree_Tree_Value_t R) (R10_Tree_Value : R10_Tree_Value_t R) (bitio_Writer_Bytes : bitio_Writer_Bytes_t R) (R09_Writer_Bytes : R09_Writer_Bytes_t R) (R09_SameBytes : R09_SameBytes_t R) : Tab R := tcons 16 (L_small_ca L_small) <| tcons 15 (L_exampleHoldsq_ca L_exampleHoldsq) <| tcons 11 (tagtree_New_ca tagtree_New) <| tcons 12 (R10_New_ca R10_New) <| tcons 17 (bitio_NewWriter_ca bitio_NewWriter) <| tcons 18 (R09_NewWriter_ca R09_NewWriter) <| tcons 19 (tagtree_Tree_Set_ca tagtree_Tree_Set) <| tcons 20 (R10_Tree_Set_ca R10_Tree_Set) <| tcons 21 (tagtree_Tree_Encode_ca tagtree_Tree_Encode) <| tcons 22 (R10_Tree_Encode_ca R10_Tree_Encode) <| tcons 23 (bitio_Writer_Len_ca bitio_Writer_Len) <| tcons 24 (R09_Writer_Len_ca R09_Writer_Len) <| tcons 25 (tagtree_Tree_Value_ca tagtree_Tree_Value) <| tcons 26 (R10_Tree_Value_ca R10_Tree_Value) <| tcons 28 (bitio_Writer_Bytes_ca bitio_Writer_Bytes) <| tcons 29 (R09_Writer_Bytes_ca R09_Writer_Bytes) <| tcons 27 (R09_SameBytes_ca R09_SameBytes) <| fun _ _ _ _ => none
def L_TagtreeWrites_C (R : Type) (k : Nat) : Tab R := L_TagtreeWrites_Ct (L_small k) L_exampleHoldsq (tagtree_New k) (R10_New k) bitio_NewWriter R09_NewWriter (tagtree_Tree_Set k) (R10_Tree_Set k) (tagtree_Tree_Encode k) (R10_Tree_Encode k) bitio_Writer_Len (R09_Writer_Len k) (tagtree_Tree_Value k) (R10_Tree_Value k) (bitio_Writer_Bytes k) (R09_Writer_Bytes k) R09_SameBytes
theorem L_TagtreeWrites_S (R : Type) (k : Nat) : CSound Try.prog (L_TagtreeWrites_C R k) := csound_cons (L_small_cs R k) <| csound_cons (L_exampleHoldsq_cs R k) <| csound_cons (tagtree_New_cs R k) <| csound_cons (R10_New_cs R k) <| csound_cons (bitio_NewWriter_cs R k) <| csound_cons (R09_NewWriter_cs R k) <| csound_cons (tagtree_Tree_Set_cs R k) <| csound_cons (R10_Tree_Set_cs R k) <| csound_cons (tagtree_Tree_Encode_cs R k) <| csound_cons (R10_Tree_Encode_cs R k) <| csound_cons (bitio_Writer_Len_cs R k) <| csound_cons (R09_Writer_Len_cs R k) <| csound_cons (tagtree_Tree_Value_cs R k) <| csound_cons (R10_Tree_Value_cs R k) <| csound_cons (bitio_Writer_Bytes_cs R k) <| csound_cons (R09_Writer_Bytes_cs R k) <| csound_cons (R09_SameBytes_cs R k) <| csound_nil
def L_TagtreeWrites_aa0 {R : Type} (f : L_TagtreeWrites_l0_t R) (n : Nat) (vals : List Value) (H : Heap) (K : Xit → Env → Heap → Option R) : Option R :=
  match vals with
  | [.pointer p32,.pointer p33,.pointer p34,.pointer p35,.slice q36 l37 c38,.int .i64 n39,.int .i64 n40] => f (fun p1734 p1735 H => K (.exit 0) [(11,.pointer p1734),(12,.pointer p1735)] H) (fun t1736 H => K .ret [(6,.bool t1736)] H) n p32 p33 p34 p35 q36 l37 c38 n39 n40 H
  | _ => none
def L_TagtreeWrites_a0 (R : Type) (k n : Nat) (vals : List Value) (H : Heap) (K : Xit → Env → Heap → Option R) : Option R := L_TagtreeWrites_aa0 (L_TagtreeWrites_l0 k) n vals H K
def L_TagtreeWrites_aa1 {R : Type} (f : L_TagtreeWrites_p1_t R) (n : Nat) (vals : List Value) (H : Heap) (K : Xit → Env → Heap → Option R) : Option R :=
  match vals with
  | [.pointer p41,.pointer p42,.pointer p43,.pointer p44,.slice q45 l46 c47,.int .i64 n48,.int .i64 n49] => f p41 p42 p43 p44 q45 l46 c47 n48 n49 H (fun p1737 p1738 p1739 p1740 q1741 l1742 c1743 n1744 n1745 H => K .normal [(7,.pointer p1737),(9,.pointer p1738),(11,.pointer p1739),(12,.pointer p1740),(42,.slice q1741 l1742 c1743),(43,.int .i64 n1744),(44,.int .i64 n1745)] H) (fun t1746 H => K .ret [(6,.bool t1746)] H)
  | _ => none
def L_TagtreeWrites_a1 (R : Type) (k n : Nat) (vals : List Value) (H : Heap) (K : Xit → Env → Heap → Option R) : Option R := L_TagtreeWrites_aa1 (L_TagtreeWrites_p1 k) n vals H K
def L_TagtreeWrites_Jt {R : Type} (k : Nat) (L_TagtreeWrites_l0 : L_TagtreeWrites_l0_t R) (L_TagtreeWrites_p1 : L_TagtreeWrites_p1_t R) : JTab R := tcons 0 (L_TagtreeWrites_aa0 L_TagtreeWrites_l0 k) <| tcons 1 (L_TagtreeWrites_aa1 L_TagtreeWrites_p1 k) <| fun _ _ _ _ => none
def L_TagtreeWrites_J (R : Type) (k : Nat) : JTab R := L_TagtreeWrites_Jt k (L_TagtreeWrites_l0 k) (L_TagtreeWrites_p1 k)
def L_TagtreeWrites_at : AT := (.seq (.reg [0,1,2] []) (.seq (.seq (.reg [0,1,2,23] []) (.cond (.seq (.reg [6] []) .leaf) .leaf)) (.seq (.reg [0,1,2,7,8] []) (.seq (.reg [2,7,8,9,10] []) (.seq (.seq (.reg [2,7,9,39] []) (.cond (.seq (.reg [6] []) .leaf) .leaf)) (.seq (.reg [2,7,9,11,12] []) (.seq (.seq (.reg [7,9,11,12,42,43,44] []) (.node (.opq 0 [7,9,11,12,42,43,44] ⟨[],[(0,[11,12])],[6]⟩ (.node (.seq (.reg [7,9,11,12,42,43,44,45] []) (.seq (.cond .leaf .leaf) (.seq (.opq 1 [7,9,11,12,42,43,44] ⟨[7,9,11,12,42,43,44],[],[6]⟩ (.node (.seq (.reg [7,9,11,12,14,42,43,44] []) (.seq (.reg [7,9,11,12,14,42,43,44,49] []) (.node (.seq (.reg [7,9,11,12,14,42,43,44,49,50] []) (.cond (.seq (.frz 14 (.reg [7,9,11,12,42,43,44,68] [[],[],[1],[],[3],[],[5],[0,1,2,3,4,5,6],[],[],[9],[],[11],[],[13],[0,1,2,3,4,5,6,7,8,9,10,11,12,13,14],[0,1,2,3,4,5,6,7,8,9,10,11,12,13,14,15]])) (.cond (.seq (.reg [6] []) .leaf) .leaf)) (.seq (.reg [7,9,11,12,14,42,43,44,49,69] []) (.cond (.seq (.frz 14 (.reg [7,9,11,12,42,43,44,96] [[],[],[],[2],[],[4],[],[6],[0,1,2,3,4,5,6,7],[],[],[],[11],[],[13],[],[15],[0,1,2,3,4,5,6,7,8,9,10,11,12,13,14,15,16],[0,1,2,3,4,5,6,7,8,9,10,11,12,13,14,15,16,17],[0,1,2,3,4,5,6,7,8,9,10,11,12,13,14,15,16,17,18],[0,1,2,3,4,5,6,7,8,9,10,11,12,13,14,15,16,17,18,19],[0,1,2,3,4,5,6,7,8,9,10,11,12,13,14,15,16,17,18,19,20],[0,1,2,3,4,5,6,7,8,9,10,11,12,13,14,15,16,17,18,19],[0,1,2,3,4,5,6,7,8,9,10,11,12,13,14,15,16,17,18,19,20,21,22],[0,1,2,3,4,5,6,7,8,9,10,11,12,13,14,15,16,17,18,19,20,21,22,23],[0,1,2,3,4,5,6,7,8,9,10,11,12,13,14,15,16,17,18,19,20,21,22,23,24]])) (.cond (.seq (.reg [6] []) .leaf) .leaf)) (.seq (.reg [7,9,11,12,14,42,43,44,97] []) (.cond (.seq (.reg [7,9,11,12,14,15,16,42,43,44] []) (.seq (.reg [7,9,11,12,15,16,17,18,42,43,44] []) (.seq (.reg [7,9,11,12,42,43,44,124] []) (.cond (.seq (.reg [6] []) .leaf) .leaf)))) .leaf))))))))))) (.reg [7,9,11,12,42,43,44] [])))))))) (.seq (.reg [6] []) .leaf))))))))
def L_TagtreeWrites_i1 : IC := (.block 1 (.seq (.reg [⟨some 46,.ids 4 (.t 42) (.t 44),none⟩,
⟨some 47,.ld (.agg [(.int .i64),(.int .i64),(.int .i64),(.int .i64)]) (.t 46),none⟩,
⟨some 14,.alc [.int .i64 0,.int .i64 0,.int .i64 0,.int .i64 0],none⟩,
⟨none,.st 4 (.t 14) (.t 47),none⟩] [7,9,11,12,14,42,43,44]) (.seq (.reg [⟨some 48,.fad 0 (.t 14),none⟩,
⟨some 49,.ld (.sc (.int .i64)) (.t 48),none⟩] [7,9,11,12,14,42,43,44,49]) (.block 2 (.seq (.reg [⟨some 51,.cmp .eql (.t 49) (.c (Go.Value.int Go.IntKind.i64 0)),none⟩,
⟨some 50,.mov (.t 51),none⟩] [7,9,11,12,14,42,43,44,49,50]) (.cond (.t 50) (.seq (.frz 14 (.reg [⟨some 52,.mov (.t 7),none⟩,
⟨some 53,.fad 1 (.t 14),none⟩,
⟨some 54,.ld (.sc (.int .i64)) (.t 53),none⟩,
⟨some 55,.fad 2 (.t 14),none⟩,
⟨some 56,.ld (.sc (.int .i64)) (.t 55),none⟩,
⟨some 57,.fad 3 (.t 14),none⟩,
⟨some 58,.ld (.sc (.int .i64)) (.t 57),none⟩,
⟨some 59,.call 19 [(.t 52),(.t 54),(.t 56),(.t 58)] (.one (.sc (.int .i64))),none⟩,
⟨some 60,.mov (.t 9),none⟩,
⟨some 61,.fad 1 (.t 14),none⟩,
⟨some 62,.ldr (.sc (.int .i64)) (.t 61),none⟩,
⟨some 63,.fad 2 (.t 14),none⟩,
⟨some 64,.ldr (.sc (.int .i64)) (.t 63),none⟩,
⟨some 65,.fad 3 (.t 14),none⟩,
⟨some 66,.ldr (.sc (.int .i64)) (.t 65),none⟩,
⟨some 67,.call 20 [(.t 60),(.t 62),(.t 64),(.t 66)] (.one (.sc (.int .i64))),none⟩,
⟨some 68,.cmp .neq (.t 59) (.t 67),none⟩] [7,9,11,12,42,43,44,68])) (.cond (.t 68) (.seq (.reg [⟨some 6,.mov (.c (Go.Value.bool false)),none⟩] [6]) .ret) .skip)) (.seq (.reg [⟨some 70,.cmp .eql (.t 49) (.c (Go.Value.int Go.IntKind.i64 1)),none⟩,
⟨some 69,.mov (.t 70),none⟩] [7,9,11,12,14,42,43,44,49,69]) (.cond (.t 69) (.seq (.frz 14 (.reg [⟨some 71,.mov (.t 7),none⟩,
⟨some 72,.mov (.t 11),none⟩,
⟨some 73,.fad 1 (.t 14),none⟩,
⟨some 74,.ld (.sc (.int .i64)) (.t 73),none⟩,
⟨some 75,.fad 2 (.t 14),none⟩,
⟨some 76,.ld (.sc (.int .i64)) (.t 75),none⟩,
⟨some 77,.fad 3 (.t 14),none⟩,
⟨some 78,.ld (.sc (.int .i64)) (.t 77),none⟩,
⟨some 79,.call 21 [(.t 71),(.t 72),(.t 74),(.t 76),(.t 78)] (.one (.sc (.int .i64))),none⟩,
⟨some 80,.mov (.t 9),none⟩,
⟨some 81,.mov (.t 12),none⟩,
⟨some 82,.fad 1 (.t 14),none⟩,
⟨some 83,.ldr (.sc (.int .i64)) (.t 82),none⟩,
⟨some 84,.fad 2 (.t 14),none⟩,
⟨some 85,.ldr (.sc (.int .i64)) (.t 84),none⟩,
⟨some 86,.fad 3 (.t 14),none⟩,
⟨some 87,.ldr (.sc (.int .i64)) (.t 86),none⟩,
⟨some 88,.call 22 [(.t 80),(.t 81),(.t 83),(.t 85),(.t 87)] (.one (.sc (.int .i64))),none⟩,
⟨some 89,.cmp .neq (.t 79) (.t 88),none⟩,
⟨some 90,.mov (.t 89),none⟩,
⟨some 91,.mov (.t 11),some (90,false)⟩,
⟨some 92,.call 23 [(.t 91)] (.one (.sc (.int .i64))),some (90,false)⟩,
⟨some 93,.mov (.t 12),some (90,false)⟩,
⟨some 94,.call 24 [(.t 93)] (.one (.sc (.int .i64))),some (90,false)⟩,
⟨some 95,.cmp .neq (.t 92) (.t 94),some (90,false)⟩,
⟨some 96,.pick (.t 90) (.c (Go.Value.bool true)) (.t 95),none⟩] [7,9,11,12,42,43,44,96])) (.cond (.t 96) (.seq (.reg [⟨some 6,.mov (.c (Go.Value.bool false)),none⟩] [6]) .ret) .skip)) (.seq (.reg [⟨some 98,.cmp .eql (.t 49) (.c (Go.Value.int Go.IntKind.i64 2)),none⟩,
⟨some 97,.mov (.t 98),none⟩] [7,9,11,12,14,42,43,44,97]) (.cond (.t 97) (.seq (.reg [⟨some 100,.mov (.t 7),none⟩,
⟨some 101,.fad 1 (.t 14),none⟩,
⟨some 102,.ld (.sc (.int .i64)) (.t 101),none⟩,
⟨some 103,.fad 2 (.t 14),none⟩,
⟨some 104,.ld (.sc (.int .i64)) (.t 103),none⟩,
⟨some 105,.call 25 [(.t 100),(.t 102),(.t 104)] (.tup [(.sc (.int .i64)),(.sc .bool)]),none⟩,
⟨some 99,.mov (.t 105),none⟩,
⟨some 106,.ext 0 (.t 99),none⟩,
⟨some 107,.ext 1 (.t 99),none⟩,
⟨some 15,.mov (.t 106),none⟩,
⟨some 16,.mov (.t 107),none⟩] [7,9,11,12,14,15,16,42,43,44]) (.seq (.reg [⟨some 109,.mov (.t 9),none⟩,
⟨some 110,.fad 1 (.t 14),none⟩,
⟨some 111,.ld (.sc (.int .i64)) (.t 110),none⟩,
⟨some 112,.fad 2 (.t 14),none⟩,
⟨some 113,.ld (.sc (.int .i64)) (.t 112),none⟩,
⟨some 114,.call 26 [(.t 109),(.t 111),(.t 113)] (.tup [(.sc (.int .i64)),(.sc .bool)]),none⟩,
⟨some 108,.mov (.t 114),none⟩,
⟨some 115,.ext 0 (.t 108),none⟩,
⟨some 116,.ext 1 (.t 108),none⟩,
⟨some 17,.mov (.t 115),none⟩,
⟨some 18,.mov (.t 116),none⟩] [7,9,11,12,15,16,17,18,42,43,44]) (.seq (.reg [⟨some 117,.mov (.t 15),none⟩,
⟨some 118,.mov (.t 17),none⟩,
⟨some 119,.cmp .neq (.t 117) (.t 118),none⟩,
⟨some 120,.mov (.t 119),none⟩,
⟨some 121,.mov (.t 16),some (120,false)⟩,
⟨some 122,.mov (.t 18),some (120,false)⟩,
⟨some 123,.eqb (.t 121) (.t 122) true,some (120,false)⟩,
⟨some 124,.pick (.t 120) (.c (Go.Value.bool true)) (.t 123),none⟩] [7,9,11,12,42,43,44,124]) (.cond (.t 124) (.seq (.reg [⟨some 6,.mov (.c (Go.Value.bool false)),none⟩] [6]) .ret) .skip)))) .skip))))))))))
def L_TagtreeWrites_i0 : IC := (.seq (.reg [⟨some 45,.cmp .lss (.t 44) (.t 43),none⟩] [7,9,11,12,42,43,44,45]) (.seq (.cond (.t 45) .skip (.exit 0)) (.seq (.opq 1 [7,9,11,12,42,43,44] L_TagtreeWrites_i1) (.reg [⟨some 125,.bin .add .i64 (.t 44) (.c (Go.Value.int Go.IntKind.i64 1)),none⟩,
⟨some 44,.mov (.t 125),none⟩] [7,9,11,12,42,43,44]))))
def L_TagtreeWrites_f : IFn := ⟨134,[.t 6],(.seq (.reg [⟨some 6,.mov (.c (Go.Value.bool false)),none⟩] [0,1,2]) (.seq (.seq (.reg [⟨some 19,.mov (.t 0),none⟩,
⟨some 20,.mov (.t 1),none⟩,
⟨some 21,.mov (.t 2),none⟩,
⟨some 22,.call 16 [(.t 19),(.t 20),(.t 21)] (.one (.sc .bool)),none⟩,
⟨some 23,.lnot (.t 22),none⟩] [0,1,2,23]) (.cond (.t 23) (.seq (.reg [⟨some 24,.call 15 [] (.one (.sc .bool)),none⟩,
⟨some 6,.mov (.t 24),none⟩] [6]) .ret) .skip)) (.seq (.reg [⟨some 26,.mov (.t 0),none⟩,
⟨some 27,.mov (.t 1),none⟩,
⟨some 28,.call 11 [(.t 26),(.t 27)] (.tup [(.sc .ptr),(.sc (.int .i64))]),none⟩,
⟨some 25,.mov (.t 28),none⟩,
⟨some 29,.ext 0 (.t 25),none⟩,
⟨some 30,.ext 1 (.t 25),none⟩,
⟨some 7,.mov (.t 29),none⟩,
⟨some 8,.mov (.t 30),none⟩] [0,1,2,7,8]) (.seq (.reg [⟨some 32,.mov (.t 0),none⟩,
⟨some 33,.mov (.t 1),none⟩,
⟨some 34,.call 12 [(.t 32),(.t 33)] (.tup [(.sc .ptr),(.sc (.int .i64))]),none⟩,
⟨some 31,.mov (.t 34),none⟩,
⟨some 35,.ext 0 (.t 31),none⟩,
⟨some 36,.ext 1 (.t 31),none⟩,
⟨some 9,.mov (.t 35),none⟩,
⟨some 10,.mov (.t 36),none⟩] [2,7,8,9,10]) (.seq (.seq (.reg [⟨some 37,.mov (.t 8),none⟩,
⟨some 38,.mov (.t 10),none⟩,
⟨some 39,.cmp .neq (.t 37) (.t 38),none⟩] [2,7,9,39]) (.cond (.t 39) (.seq (.reg [⟨some 6,.mov (.c (Go.Value.bool false)),none⟩] [6]) .ret) .skip)) (.seq (.reg [⟨some 40,.call 17 [] (.one (.sc .ptr)),none⟩,
⟨some 41,.call 18 [] (.one (.sc .ptr)),none⟩,
⟨some 11,.mov (.t 40),none⟩,
⟨some 12,.mov (.t 41),none⟩] [2,7,9,11,12]) (.seq (.seq (.reg [⟨some 42,.mov (.t 2),none⟩,
⟨some 43,.len false (.t 42),none⟩,
⟨some 44,.mov (.c (Go.Value.int Go.IntKind.i64 0)),none⟩] [7,9,11,12,42,43,44]) (.block 0 (.opq 0 [7,9,11,12,42,43,44] (.loop L_TagtreeWrites_i0)))) (.seq (.reg [⟨some 126,.mov (.t 11),none⟩,
⟨some 127,.call 28 [(.t 126)] (.one (.sc .slc)),none⟩,
⟨some 128,.mov (.t 12),none⟩,
⟨some 129,.call 29 [(.t 128)] (.one (.sc .slc)),none⟩,
⟨some 130,.call 27 [(.t 127),(.t 129)] (.one (.sc .bool)),none⟩,
⟨some 131,.mov (.t 130),none⟩,
⟨some 132,.call 15 [] (.one (.sc .bool)),some (131,true)⟩,
⟨some 133,.pick (.t 131) (.t 132) (.c (Go.Value.bool false)),none⟩,
⟨some 6,.mov (.t 133),none⟩] [6]) .ret))))))))⟩
theorem L_TagtreeWrites_e1 {R : Type} (L_small : L_small_t R) (L_exampleHoldsq : L_exampleHoldsq_t R) (tagtree_New : tagtree_New_t R) (R10_New : R10_New_t R) (bitio_NewWriter : bitio_NewWriter_t R) (R09_NewWriter : R09_NewWriter_t R) (tagtree_Tree_Set : tagtree_Tree_Set_t R) (R10_Tree_Set : R10_Tree_Set_t R) (tagtree_Tree_Encode : tagtree_Tree_Encode_t R) (R10_Tree_Encode : R10_Tree_Encode_t R) (bitio_Writer_Len : bitio_Writer_Len_t R) (R09_Writer_Len : R09_Writer_Len_t R) (tagtree_Tree_Value : tagtree_Tree_Value_t R) (R10_Tree_Value : R10_Tree_Value_t R) (bitio_Writer_Bytes : bitio_Writer_Bytes_t R) (R09_Writer_Bytes : R09_Writer_Bytes_t R) (R09_SameBytes : R09_SameBytes_t R) (L_TagtreeWrites_l0 : L_TagtreeWrites_l0_t R) (L_TagtreeWrites_p1 : L_TagtreeWrites_p1_t R) (k : Nat) (p41 : Oa) (p42 : Oa) (p43 : Oa) (p44 : Oa) (q45 : Oa) (l46 : Nat) (c47 : Nat) (n48 : Int) (n49 : Int) (H : Heap) (K : Xit → Env → Heap → Option R) : evJ (L_TagtreeWrites_Ct L_small L_exampleHoldsq tagtree_New R10_New bitio_NewWriter R09_NewWriter tagtree_Tree_Set R10_Tree_Set tagtree_Tree_Encode R10_Tree_Encode bitio_Writer_Len R09_Writer_Len tagtree_Tree_Value R10_Tree_Value bitio_Writer_Bytes R09_Writer_Bytes R09_SameBytes) (L_TagtreeWrites_Jt k L_TagtreeWrites_l0 L_TagtreeWrites_p1) L_TagtreeWrites_i1 (List.zip [7,9,11,12,42,43,44] [.pointer p41,.pointer p42,.pointer p43,.pointer p44,.slice q45 l46 c47,.int .i64 n48,.int .i64 n49]) H (fun x e' H' => K x (clean e' ((⟨[7,9,11,12,42,43,44],[],[6]⟩ : Out).of x)) H') = L_TagtreeWrites_p1_b tagtree_Tree_Set R10_Tree_Set tagtree_Tree_Encode R10_Tree_Encode bitio_Writer_Len R09_Writer_Len tagtree_Tree_Value R10_Tree_Value k p41 p42 p43 p44 q45 l46 c47 n48 n49 H (fun p1737 p1738 p1739 p1740 q1741 l1742 c1743 n1744 n1745 H => K .normal [(7,.pointer p1737),(9,.pointer p1738),(11,.pointer p1739),(12,.pointer p1740),(42,.slice q1741 l1742 c1743),(43,.int .i64 n1744),(44,.int .i64 n1745)] H) (fun t1746 H => K .ret [(6,.bool t1746)] H) := by kernel_rfl
theorem L_TagtreeWrites_j1 {R : Type} (k : Nat) : JS Try.prog 134 (L_TagtreeWrites_a1 R k k) [7,9,11,12,42,43,44] ⟨[7,9,11,12,42,43,44],[],[6]⟩ (sel [1,1,1,1,1,1,0,1,0,0,1,1,0] (Try.f4.body.getD .skip)) :=
  piece_ok (nt := 134) (c := (sel [1,1,1,1,1,1,0,1,0,0,1,1,0] (Try.f4.body.getD .skip))) (C := L_TagtreeWrites_C R k) (an := An) (t := (.node (.seq (.reg [7,9,11,12,14,42,43,44] []) (.seq (.reg [7,9,11,12,14,42,43,44,49] []) (.node (.seq (.reg [7,9,11,12,14,42,43,44,49,50] []) (.cond (.seq (.frz 14 (.reg [7,9,11,12,42,43,44,68] [[],[],[1],[],[3],[],[5],[0,1,2,3,4,5,6],[],[],[9],[],[11],[],[13],[0,1,2,3,4,5,6,7,8,9,10,11,12,13,14],[0,1,2,3,4,5,6,7,8,9,10,11,12,13,14,15]])) (.cond (.seq (.reg [6] []) .leaf) .leaf)) (.seq (.reg [7,9,11,12,14,42,43,44,49,69] []) (.cond (.seq (.frz 14 (.reg [7,9,11,12,42,43,44,96] [[],[],[],[2],[],[4],[],[6],[0,1,2,3,4,5,6,7],[],[],[],[11],[],[13],[],[15],[0,1,2,3,4,5,6,7,8,9,10,11,12,13,14,15,16],[0,1,2,3,4,5,6,7,8,9,10,11,12,13,14,15,16,17],[0,1,2,3,4,5,6,7,8,9,10,11,12,13,14,15,16,17,18],[0,1,2,3,4,5,6,7,8,9,10,11,12,13,14,15,16,17,18,19],[0,1,2,3,4,5,6,7,8,9,10,11,12,13,14,15,16,17,18,19,20],[0,1,2,3,4,5,6,7,8,9,10,11,12,13,14,15,16,17,18,19],[0,1,2,3,4,5,6,7,8,9,10,11,12,13,14,15,16,17,18,19,20,21,22],[0,1,2,3,4,5,6,7,8,9,10,11,12,13,14,15,16,17,18,19,20,21,22,23],[0,1,2,3,4,5,6,7,8,9,10,11,12,13,14,15,16,17,18,19,20,21,22,23,24]])) (.cond (.seq (.reg [6] []) .leaf) .leaf)) (.seq (.reg [7,9,11,12,14,42,43,44,97] []) (.cond (.seq (.reg [7,9,11,12,14,15,16,42,43,44] []) (.seq (.reg [7,9,11,12,15,16,17,18,42,43,44] []) (.seq (.reg [7,9,11,12,42,43,44,124] []) (.cond (.seq (.reg [6] []) .leaf) .leaf)))) .leaf))))))))))) (ic := L_TagtreeWrites_i1) (L_TagtreeWrites_S R k) (L_TagtreeWrites_J R k) (by kernel_rfl) (And.intro True.intro (And.intro True.intro (And.intro True.intro (And.intro (And.intro True.intro (And.intro (And.intro True.intro True.intro) True.intro)) (And.intro True.intro (And.intro (And.intro True.intro (And.intro (And.intro True.intro True.intro) True.intro)) (And.intro True.intro (And.intro (And.intro True.intro (And.intro True.intro (And.intro True.intro (And.intro (And.intro True.intro True.intro) True.intro)))) True.intro)))))))) (L_TagtreeWrites_a1 R k k)
    (fun vals H K r h => by
      unfold L_TagtreeWrites_a1 L_TagtreeWrites_aa1 at h
      split at h <;> first | (cases h; done) | exact Eq.trans (L_TagtreeWrites_e1 (L_small k) L_exampleHoldsq (tagtree_New k) (R10_New k) bitio_NewWriter R09_NewWriter (tagtree_Tree_Set k) (R10_Tree_Set k) (tagtree_Tree_Encode k) (R10_Tree_Encode k) bitio_Writer_Len (R09_Writer_Len k) (tagtree_Tree_Value k) (R10_Tree_Value k) (bitio_Writer_Bytes k) (R09_Writer_Bytes k) R09_SameBytes (L_TagtreeWrites_l0 k) (L_TagtreeWrites_p1 k) k _ _ _ _ _ _ _ _ _ H K) h)
theorem L_TagtreeWrites_e0 {R : Type} (L_small : L_small_t R) (L_exampleHoldsq : L_exampleHoldsq_t R) (tagtree_New : tagtree_New_t R) (R10_New : R10_New_t R) (bitio_NewWriter : bitio_NewWriter_t R) (R09_NewWriter : R09_NewWriter_t R) (tagtree_Tree_Set : tagtree_Tree_Set_t R) (R10_Tree_Set : R10_Tree_Set_t R) (tagtree_Tree_Encode : tagtree_Tree_Encode_t R) (R10_Tree_Encode : R10_Tree_Encode_t R) (bitio_Writer_Len : bitio_Writer_Len_t R) (R09_Writer_Len : R09_Writer_Len_t R) (tagtree_Tree_Value : tagtree_Tree_Value_t R) (R10_Tree_Value : R10_Tree_Value_t R) (bitio_Writer_Bytes : bitio_Writer_Bytes_t R) (R09_Writer_Bytes : R09_Writer_Bytes_t R) (R09_SameBytes : R09_SameBytes_t R) (L_TagtreeWrites_l0 : L_TagtreeWrites_l0_t R) (L_TagtreeWrites_p1 : L_TagtreeWrites_p1_t R) (k n : Nat) (p32 : Oa) (p33 : Oa) (p34 : Oa) (p35 : Oa) (q36 : Oa) (l37 : Nat) (c38 : Nat) (n39 : Int) (n40 : Int) (H : Heap) (K : Xit → Env → Heap → Option R) : evJ (L_TagtreeWrites_Ct L_small L_exampleHoldsq tagtree_New R10_New bitio_NewWriter R09_NewWriter tagtree_Tree_Set R10_Tree_Set tagtree_Tree_Encode R10_Tree_Encode bitio_Writer_Len R09_Writer_Len tagtree_Tree_Value R10_Tree_Value bitio_Writer_Bytes R09_Writer_Bytes R09_SameBytes) (L_TagtreeWrites_Jt k L_TagtreeWrites_l0 L_TagtreeWrites_p1) L_TagtreeWrites_i0 (List.zip [7,9,11,12,42,43,44] [.pointer p32,.pointer p33,.pointer p34,.pointer p35,.slice q36 l37 c38,.int .i64 n39,.int .i64 n40]) H (fun x e' H' => match x with | .normal => L_TagtreeWrites_aa0 L_TagtreeWrites_l0 n ((clean e' [7,9,11,12,42,43,44]).map (·.2)) H' K | x => K x (clean e' ((⟨[],[(0,[11,12])],[6]⟩ : Out).of x)) H') = L_TagtreeWrites_l0_b L_TagtreeWrites_p1 (L_TagtreeWrites_l0 (fun p1734 p1735 H => K (.exit 0) [(11,.pointer p1734),(12,.pointer p1735)] H) (fun t1736 H => K .ret [(6,.bool t1736)] H) n) (fun p1734 p1735 H => K (.exit 0) [(11,.pointer p1734),(12,.pointer p1735)] H) (fun t1736 H => K .ret [(6,.bool t1736)] H) k p32 p33 p34 p35 q36 l37 c38 n39 n40 H := by kernel_rfl
theorem L_TagtreeWrites_j0 {R : Type} (k : Nat) : JS Try.prog 134 (L_TagtreeWrites_a0 R k k) [7,9,11,12,42,43,44] ⟨[],[(0,[11,12])],[6]⟩ (.loop (sel [1,1,1,1,1,1,0,1,0,0] (Try.f4.body.getD .skip))) :=
  loop_ok (nt := 134) (c := (sel [1,1,1,1,1,1,0,1,0,0] (Try.f4.body.getD .skip))) (C := L_TagtreeWrites_C R k) (an := An) (t := (.seq (.reg [7,9,11,12,42,43,44,45] []) (.seq (.cond .leaf .leaf) (.seq (.opq 1 [7,9,11,12,42,43,44] ⟨[7,9,11,12,42,43,44],[],[6]⟩ (.node (.seq (.reg [7,9,11,12,14,42,43,44] []) (.seq (.reg [7,9,11,12,14,42,43,44,49] []) (.node (.seq (.reg [7,9,11,12,14,42,43,44,49,50] []) (.cond (.seq (.frz 14 (.reg [7,9,11,12,42,43,44,68] [[],[],[1],[],[3],[],[5],[0,1,2,3,4,5,6],[],[],[9],[],[11],[],[13],[0,1,2,3,4,5,6,7,8,9,10,11,12,13,14],[0,1,2,3,4,5,6,7,8,9,10,11,12,13,14,15]])) (.cond (.seq (.reg [6] []) .leaf) .leaf)) (.seq (.reg [7,9,11,12,14,42,43,44,49,69] []) (.cond (.seq (.frz 14 (.reg [7,9,11,12,42,43,44,96] [[],[],[],[2],[],[4],[],[6],[0,1,2,3,4,5,6,7],[],[],[],[11],[],[13],[],[15],[0,1,2,3,4,5,6,7,8,9,10,11,12,13,14,15,16],[0,1,2,3,4,5,6,7,8,9,10,11,12,13,14,15,16,17],[0,1,2,3,4,5,6,7,8,9,10,11,12,13,14,15,16,17,18],[0,1,2,3,4,5,6,7,8,9,10,11,12,13,14,15,16,17,18,19],[0,1,2,3,4,5,6,7,8,9,10,11,12,13,14,15,16,17,18,19,20],[0,1,2,3,4,5,6,7,8,9,10,11,12,13,14,15,16,17,18,19],[0,1,2,3,4,5,6,7,8,9,10,11,12,13,14,15,16,17,18,19,20,21,22],[0,1,2,3,4,5,6,7,8,9,10,11,12,13,14,15,16,17,18,19,20,21,22,23],[0,1,2,3,4,5,6,7,8,9,10,11,12,13,14,15,16,17,18,19,20,21,22,23,24]])) (.cond (.seq (.reg [6] []) .leaf) .leaf)) (.seq (.reg [7,9,11,12,14,42,43,44,97] []) (.cond (.seq (.reg [7,9,11,12,14,15,16,42,43,44] []) (.seq (.reg [7,9,11,12,15,16,17,18,42,43,44] []) (.seq (.reg [7,9,11,12,42,43,44,124] []) (.cond (.seq (.reg [6] []) .leaf) .leaf)))) .leaf))))))))))) (.reg [7,9,11,12,42,43,44] []))))) (ic := L_TagtreeWrites_i0) (L_TagtreeWrites_S R k) (L_TagtreeWrites_J R k) (by kernel_rfl) (And.intro True.intro (And.intro (And.intro True.intro True.intro) (And.intro (L_TagtreeWrites_j1 k) True.intro))) (L_TagtreeWrites_a0 R k) (fun vals H K => by unfold L_TagtreeWrites_a0 L_TagtreeWrites_aa0; split <;> rfl)
    (fun n vals H K r h => by
      unfold L_TagtreeWrites_a0 L_TagtreeWrites_aa0 at h
      split at h <;> first | (cases h; done) | exact Eq.trans (L_TagtreeWrites_e0 (L_small k) L_exampleHoldsq (tagtree_New k) (R10_New k) bitio_NewWriter R09_NewWriter (tagtree_Tree_Set k) (R10_Tree_Set k) (tagtree_Tree_Encode k) (R10_Tree_Encode k) bitio_Writer_Len (R09_Writer_Len k) (tagtree_Tree_Value k) (R10_Tree_Value k) (bitio_Writer_Bytes k) (R09_Writer_Bytes k) R09_SameBytes (L_TagtreeWrites_l0 k) (L_TagtreeWrites_p1 k) k n _ _ _ _ _ _ _ _ _ H K) h) k
def L_TagtreeWrites_ca {R : Type} (f : L_TagtreeWrites_t R) (args : List Value) (H : Heap) (K : Value → Heap → Option R) : Option R :=
  match args with
  | [.int .i64 n14,.int .i64 n15,.slice q16 l17 c18] => f n14 n15 q16 l17 c18 H (fun t1747 H => K (.bool t1747) H)
  | _ => none
def L_TagtreeWrites_c (R : Type) (k : Nat) (args : List Value) (H : Heap) (K : Value → Heap → Option R) : Option R := L_TagtreeWrites_ca (L_TagtreeWrites k) args H K
theorem L_TagtreeWrites_e {R : Type} (L_small : L_small_t R) (L_exampleHoldsq : L_exampleHoldsq_t R) (tagtree_New : tagtree_New_t R) (R10_New : R10_New_t R) (bitio_NewWriter : bitio_NewWriter_t R) (R09_NewWriter : R09_NewWriter_t R) (tagtree_Tree_Set : tagtree_Tree_Set_t R) (R10_Tree_Set : R10_Tree_Set_t R) (tagtree_Tree_Encode : tagtree_Tree_Encode_t R) (R10_Tree_Encode : R10_Tree_Encode_t R) (bitio_Writer_Len : bitio_Writer_Len_t R) (R09_Writer_Len : R09_Writer_Len_t R) (tagtree_Tree_Value : tagtree_Tree_Value_t R) (R10_Tree_Value : R10_Tree_Value_t R) (bitio_Writer_Bytes : bitio_Writer_Bytes_t R) (R09_Writer_Bytes : R09_Writer_Bytes_t R) (R09_SameBytes : R09_SameBytes_t R) (L_TagtreeWrites_l0 : L_TagtreeWrites_l0_t R) (L_TagtreeWrites_p1 : L_TagtreeWrites_p1_t R) (k : Nat) (n14 : Int) (n15 : Int) (q16 : Oa) (l17 : Nat) (c18 : Nat) (H : Heap) (K : Value → Heap → Option R) : evF (L_TagtreeWrites_Ct L_small L_exampleHoldsq tagtree_New R10_New bitio_NewWriter R09_NewWriter tagtree_Tree_Set R10_Tree_Set tagtree_Tree_Encode R10_Tree_Encode bitio_Writer_Len R09_Writer_Len tagtree_Tree_Value R10_Tree_Value bitio_Writer_Bytes R09_Writer_Bytes R09_SameBytes) (L_TagtreeWrites_Jt k L_TagtreeWrites_l0 L_TagtreeWrites_p1) L_TagtreeWrites_f [.int .i64 n14,.int .i64 n15,.slice q16 l17 c18] H K = L_TagtreeWrites_b L_small L_exampleHoldsq tagtree_New R10_New bitio_NewWriter R09_NewWriter L_TagtreeWrites_l0 bitio_Writer_Bytes R09_Writer_Bytes R09_SameBytes k n14 n15 q16 l17 c18 H (fun t1747 H => K (.bool t1747) H) := by kernel_rfl
theorem L_TagtreeWrites_cs (R : Type) (k : Nat) : ∀ args H K r,L_TagtreeWrites_c R k args H K = some r → ∃ v H',Tri Try.prog 4 args H v H' ∧ K v H' = some r := by
  intro args H K r h
  unfold L_TagtreeWrites_c L_TagtreeWrites_ca at h
  split at h
  · exact evF_ok (C := L_TagtreeWrites_C R k) (an := An) (t := L_TagtreeWrites_at) (fn := Try.f4) (c := (Try.f4.body.getD .skip)) (ifn := L_TagtreeWrites_f) (L_TagtreeWrites_S R k) (L_TagtreeWrites_J R k) Try.func4 (by kernel_rfl) (by kernel_rfl) (And.intro True.intro (And.intro (And.intro True.intro (And.intro (And.intro True.intro True.intro) True.intro)) (And.intro True.intro (And.intro True.intro (And.intro (And.intro True.intro (And.intro (And.intro True.intro True.intro) True.intro)) (And.intro True.intro (And.intro (And.intro True.intro (L_TagtreeWrites_j0 k)) (And.intro True.intro True.intro)))))))) rfl (Eq.trans (L_TagtreeWrites_e (L_small k) L_exampleHoldsq (tagtree_New k) (R10_New k) bitio_NewWriter R09_NewWriter (tagtree_Tree_Set k) (R10_Tree_Set k) (tagtree_Tree_Encode k) (R10_Tree_Encode k) bitio_Writer_Len (R09_Writer_Len k) (tagtree_Tree_Value k) (R10_Tree_Value k) (bitio_Writer_Bytes k) (R09_Writer_Bytes k) R09_SameBytes (L_TagtreeWrites_l0 k) (L_TagtreeWrites_p1 k) k _ _ _ _ _ H K) h)
  · cases h
end Go.Proofs.Ytblkejnciinaeaa.Sh
