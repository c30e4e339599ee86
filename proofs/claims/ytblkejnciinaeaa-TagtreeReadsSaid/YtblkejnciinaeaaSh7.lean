/- Lean functions that stand for Go's,over an explicit heap,and the proofs that they do (written by this claim's program shallow.py). -/
import Derived.Test.YtblkejnciinaeaaSh0
set_option maxRecDepth 100000
set_option linter.unusedVariables false
set_option linter.unusedSimpArgs false
namespace Go.Proofs.Ytblkejnciinaeaa.Sh
open Go.Proofs.Ytblkejnciinaeaa.FW
/-! ### R10_Tree_leaf: function 41 -/
abbrev R10_Tree_leaf_t (R : Type) : Type := Oa → Int → Int → Heap → (Bool → Option R) → Option R

def R10_Tree_leaf_b {R : Type} (k : Nat) (p200 : Oa) (n201 : Int) (n202 : Int) (H : Heap) (K : Bool → Option R) : Option R :=
bif decide (n201 ≥ 0) then (hnil p200 fun p203 =>
hfad 1 p203 fun p204 =>
ldI .i64 H p204 fun n205 =>
bif decide (n201 < n205) then (bif decide (n202 ≥ 0) then (hnil p200 fun p206 =>
hfad 2 p206 fun p207 =>
ldI .i64 H p207 fun n208 =>
K (decide (n202 < n208)))
 else (K false))
 else (K false))
 else (K false)

def R10_Tree_leaf {R : Type} (p200 : Oa) (n201 : Int) (n202 : Int) (H : Heap) (K : Bool → Option R) : Option R := R10_Tree_leaf_b 0 p200 n201 n202 H K

def R10_Tree_leaf_Ct {R : Type} : Tab R := fun _ _ _ _ => none
def R10_Tree_leaf_C (R : Type) (k : Nat) : Tab R := R10_Tree_leaf_Ct
theorem R10_Tree_leaf_S (R : Type) (k : Nat) : CSound Try.prog (R10_Tree_leaf_C R k) := csound_nil
def R10_Tree_leaf_Jt {R : Type} (k : Nat) : JTab R := fun _ _ _ _ => none
def R10_Tree_leaf_J (R : Type) (k : Nat) : JTab R := R10_Tree_leaf_Jt k
def R10_Tree_leaf_at : AT := (.seq (.reg [0,1,2] []) (.seq (.reg [6] []) .leaf))
def R10_Tree_leaf_f : IFn := ⟨29,[.t 6],(.seq (.reg [⟨some 6,.mov (.c (Go.Value.bool false)),none⟩] [0,1,2]) (.seq (.reg [⟨some 7,.mov (.t 1),none⟩,
⟨some 8,.cmp .geq (.t 7) (.c (Go.Value.int Go.IntKind.i64 0)),none⟩,
⟨some 9,.mov (.t 8),none⟩,
⟨some 10,.mov (.t 1),some (9,true)⟩,
⟨some 11,.mov (.t 0),some (9,true)⟩,
⟨some 12,.nilc (.t 11),some (9,true)⟩,
⟨some 13,.fad 1 (.t 12),some (9,true)⟩,
⟨some 14,.ld (.sc (.int .i64)) (.t 13),some (9,true)⟩,
⟨some 15,.cmp .lss (.t 10) (.t 14),some (9,true)⟩,
⟨some 16,.pick (.t 9) (.t 15) (.c (Go.Value.bool false)),none⟩,
⟨some 17,.mov (.t 16),none⟩,
⟨some 18,.mov (.t 2),some (17,true)⟩,
⟨some 19,.cmp .geq (.t 18) (.c (Go.Value.int Go.IntKind.i64 0)),some (17,true)⟩,
⟨some 20,.pick (.t 17) (.t 19) (.c (Go.Value.bool false)),none⟩,
⟨some 21,.mov (.t 20),none⟩,
⟨some 22,.mov (.t 2),some (21,true)⟩,
⟨some 23,.mov (.t 0),some (21,true)⟩,
⟨some 24,.nilc (.t 23),some (21,true)⟩,
⟨some 25,.fad 2 (.t 24),some (21,true)⟩,
⟨some 26,.ld (.sc (.int .i64)) (.t 25),some (21,true)⟩,
⟨some 27,.cmp .lss (.t 22) (.t 26),some (21,true)⟩,
⟨some 28,.pick (.t 21) (.t 27) (.c (Go.Value.bool false)),none⟩,
⟨some 6,.mov (.t 28),none⟩] [6]) .ret))⟩
def R10_Tree_leaf_ca {R : Type} (f : R10_Tree_leaf_t R) (args : List Value) (H : Heap) (K : Value → Heap → Option R) : Option R :=
  match args with
  | [.pointer p200,.int .i64 n201,.int .i64 n202] => f p200 n201 n202 H (fun t1583 => K (.bool t1583) H)
  | _ => none
def R10_Tree_leaf_c (R : Type) (k : Nat) (args : List Value) (H : Heap) (K : Value → Heap → Option R) : Option R := R10_Tree_leaf_ca R10_Tree_leaf args H K
theorem R10_Tree_leaf_e {R : Type} (k : Nat) (p200 : Oa) (n201 : Int) (n202 : Int) (H : Heap) (K : Value → Heap → Option R) : evF (R10_Tree_leaf_Ct) (R10_Tree_leaf_Jt k) R10_Tree_leaf_f [.pointer p200,.int .i64 n201,.int .i64 n202] H K = R10_Tree_leaf_b k p200 n201 n202 H (fun t1583 => K (.bool t1583) H) := by kernel_rfl
theorem R10_Tree_leaf_cs (R : Type) (k : Nat) : ∀ args H K r,R10_Tree_leaf_c R k args H K = some r → ∃ v H',Tri Try.prog 41 args H v H' ∧ K v H' = some r := by
  intro args H K r h
  unfold R10_Tree_leaf_c R10_Tree_leaf_ca at h
  split at h
  · exact evF_ok (C := R10_Tree_leaf_C R 0) (an := An) (t := R10_Tree_leaf_at) (fn := Try.f41) (c := (Try.f41.body.getD .skip)) (ifn := R10_Tree_leaf_f) (R10_Tree_leaf_S R 0) (R10_Tree_leaf_J R 0) Try.func41 (by kernel_rfl) (by kernel_rfl) (And.intro True.intro (And.intro True.intro True.intro)) rfl (Eq.trans (R10_Tree_leaf_e 0 _ _ _ H K) h)
  · cases h
/-! ### R10_Tree_Set: function 20 -/
abbrev R10_Tree_Set_p0_t (R : Type) : Type := Oa → Int → Int → Int → Heap → (Oa → Int → Int → Int → Option R) → (Int → Option R) → Option R
def R10_Tree_Set_p0_b {R : Type} (k : Nat) (p174 : Oa) (n175 : Int) (n176 : Int) (n177 : Int) (H : Heap) (KN : Oa → Int → Int → Int → Option R) (KR : Int → Option R) : Option R :=
bif p174.isNone then (KR 6)
 else (hnil p174 fun p178 =>
hfad 0 p178 fun p179 =>
ldB H p179 fun t180 =>
bif (!t180) then (KR 6)
 else (hnil p174 fun p181 =>
hfad 4 p181 fun p182 =>
ldB H p182 fun t183 =>
bif t183 then (KR 6)
 else (hnil p174 fun p184 =>
hfad 5 p184 fun p185 =>
ldB H p185 fun t186 =>
bif t186 then (KR 6)
 else (KN p174 n175 n176 n177))))
def R10_Tree_Set_p0 {R : Type} (k : Nat) (p174 : Oa) (n175 : Int) (n176 : Int) (n177 : Int) (H : Heap) (KN : Oa → Int → Int → Int → Option R) (KR : Int → Option R) : Option R := R10_Tree_Set_p0_b k p174 n175 n176 n177 H KN KR

abbrev R10_Tree_Set_p1_t (R : Type) : Type := Oa → Int → Int → Int → Heap → (Oa → Int → Int → Int → Option R) → (Int → Option R) → Option R
def R10_Tree_Set_p1_b {R : Type} (R10_Tree_leaf : R10_Tree_leaf_t R) (k : Nat) (p196 : Oa) (n197 : Int) (n198 : Int) (n199 : Int) (H : Heap) (KN : Oa → Int → Int → Int → Option R) (KR : Int → Option R) : Option R :=
R10_Tree_leaf p196 n197 n198 H fun t200 =>
bif (!t200) then (KR 2)
 else (bif decide (n199 < 0) then (KR 2)
 else (bif decide (n199 > 65535) then (KR 2)
 else (KN p196 n197 n198 n199)))
def R10_Tree_Set_p1 {R : Type} (k : Nat) (p196 : Oa) (n197 : Int) (n198 : Int) (n199 : Int) (H : Heap) (KN : Oa → Int → Int → Int → Option R) (KR : Int → Option R) : Option R := R10_Tree_Set_p1_b R10_Tree_leaf k p196 n197 n198 n199 H KN KR

abbrev R10_Tree_Set_t (R : Type) : Type := Oa → Int → Int → Int → Heap → (Int → Heap → Option R) → Option R

def R10_Tree_Set_b {R : Type} (R10_Tree_Set_p0 : R10_Tree_Set_p0_t R) (R10_Tree_Set_p1 : R10_Tree_Set_p1_t R) (k : Nat) (p170 : Oa) (n171 : Int) (n172 : Int) (n173 : Int) (H : Heap) (K : Int → Heap → Option R) : Option R :=
R10_Tree_Set_p0 p170 n171 n172 n173 H (fun p192 n193 n194 n195 =>
R10_Tree_Set_p1 p192 n193 n194 n195 H (fun p206 n207 n208 n209 =>
hnil p206 fun p210 =>
hfad 3 p210 fun p211 =>
ldL H p211 fun q212 l213 c214 =>
hnil p206 fun p215 =>
hfad 1 p215 fun p216 =>
ldI .i64 H p216 fun n217 =>
hidx q212 l213 (IntKind.wrap .i64 ((IntKind.wrap .i64 (n208 * n217)) + n207)) 3 fun p218 =>
hfad 0 p218 fun p219 =>
hst1 H p219 (.int .i64 n209) fun H220 =>
K 0 H220) (fun n221 =>
K n221 H)) (fun n222 =>
K n222 H)

def R10_Tree_Set {R : Type} (k : Nat) (p170 : Oa) (n171 : Int) (n172 : Int) (n173 : Int) (H : Heap) (K : Int → Heap → Option R) : Option R := R10_Tree_Set_b (R10_Tree_Set_p0 k) (R10_Tree_Set_p1 k) k p170 n171 n172 n173 H K

def R10_Tree_Set_Ct {R : Type} (R10_Tree_leaf : R10_Tree_leaf_t R) : Tab R := tcons 41 (R10_Tree_leaf_ca R10_Tree_leaf) <| fun _ _ _ _ => none
def R10_Tree_Set_C (R : Type) (k : Nat) : Tab R := R10_Tree_Set_Ct R10_Tree_leaf
theorem R10_Tree_Set_S (R : Type) (k : Nat) : CSound Try.prog (R10_Tree_Set_C R k) := csound_cons (R10_Tree_leaf_cs R k) <| csound_nil
def R10_Tree_Set_aa0 {R : Type} (f : R10_Tree_Set_p0_t R) (n : Nat) (vals : List Value) (H : Heap) (K : Xit → Env → Heap → Option R) : Option R :=
  match vals with
  | [.pointer p174,.int .i64 n175,.int .i64 n176,.int .i64 n177] => f p174 n175 n176 n177 H (fun p1584 n1585 n1586 n1587 => K .normal [(0,.pointer p1584),(1,.int .i64 n1585),(2,.int .i64 n1586),(3,.int .i64 n1587)] H) (fun n1588 => K .ret [(8,.int .i64 n1588)] H)
  | _ => none
def R10_Tree_Set_a0 (R : Type) (k n : Nat) (vals : List Value) (H : Heap) (K : Xit → Env → Heap → Option R) : Option R := R10_Tree_Set_aa0 (R10_Tree_Set_p0 k) n vals H K
def R10_Tree_Set_aa1 {R : Type} (f : R10_Tree_Set_p1_t R) (n : Nat) (vals : List Value) (H : Heap) (K : Xit → Env → Heap → Option R) : Option R :=
  match vals with
  | [.pointer p196,.int .i64 n197,.int .i64 n198,.int .i64 n199] => f p196 n197 n198 n199 H (fun p1589 n1590 n1591 n1592 => K .normal [(0,.pointer p1589),(1,.int .i64 n1590),(2,.int .i64 n1591),(3,.int .i64 n1592)] H) (fun n1593 => K .ret [(8,.int .i64 n1593)] H)
  | _ => none
def R10_Tree_Set_a1 (R : Type) (k n : Nat) (vals : List Value) (H : Heap) (K : Xit → Env → Heap → Option R) : Option R := R10_Tree_Set_aa1 (R10_Tree_Set_p1 k) n vals H K
def R10_Tree_Set_Jt {R : Type} (k : Nat) (R10_Tree_Set_p0 : R10_Tree_Set_p0_t R) (R10_Tree_Set_p1 : R10_Tree_Set_p1_t R) : JTab R := tcons 0 (R10_Tree_Set_aa0 R10_Tree_Set_p0 k) <| tcons 1 (R10_Tree_Set_aa1 R10_Tree_Set_p1 k) <| fun _ _ _ _ => none
def R10_Tree_Set_J (R : Type) (k : Nat) : JTab R := R10_Tree_Set_Jt k (R10_Tree_Set_p0 k) (R10_Tree_Set_p1 k)
def R10_Tree_Set_at : AT := (.seq (.reg [0,1,2,3] []) (.seq (.opq 0 [0,1,2,3] ⟨[0,1,2,3],[],[8]⟩ (.seq (.reg [0,1,2,3,29] []) (.cond (.seq (.reg [8] []) .leaf) .leaf))) (.seq (.opq 1 [0,1,2,3] ⟨[0,1,2,3],[],[8]⟩ (.seq (.reg [0,1,2,3,42] []) (.cond (.seq (.reg [8] []) .leaf) .leaf))) (.seq (.reg [] [[],[0],[0,1],[0,1,2],[],[],[5],[5,6],[5,6,7],[4,5,6,7,8],[],[4,5,6,7,8,9,10],[],[0,1,2,3,4,5,6,7,8,9,10,11,12],[0,1,2,3,4,5,6,7,8,9,10,11,12,13],[0,1,2,3,4,5,6,7,8,9,10,11,12,13,14]]) (.seq (.reg [8] []) .leaf)))))
def R10_Tree_Set_i1 : IC := (.seq (.reg [⟨some 30,.mov (.t 0),none⟩,
⟨some 31,.mov (.t 1),none⟩,
⟨some 32,.mov (.t 2),none⟩,
⟨some 33,.call 41 [(.t 30),(.t 31),(.t 32)] (.one (.sc .bool)),none⟩,
⟨some 34,.lnot (.t 33),none⟩,
⟨some 35,.mov (.t 34),none⟩,
⟨some 36,.mov (.t 3),some (35,false)⟩,
⟨some 37,.cmp .lss (.t 36) (.c (Go.Value.int Go.IntKind.i64 0)),some (35,false)⟩,
⟨some 38,.pick (.t 35) (.c (Go.Value.bool true)) (.t 37),none⟩,
⟨some 39,.mov (.t 38),none⟩,
⟨some 40,.mov (.t 3),some (39,false)⟩,
⟨some 41,.cmp .gtr (.t 40) (.c (Go.Value.int Go.IntKind.i64 65535)),some (39,false)⟩,
⟨some 42,.pick (.t 39) (.c (Go.Value.bool true)) (.t 41),none⟩] [0,1,2,3,42]) (.cond (.t 42) (.seq (.reg [⟨some 8,.mov (.c (Go.Value.int Go.IntKind.i64 2)),none⟩] [8]) .ret) .skip))
def R10_Tree_Set_i0 : IC := (.seq (.reg [⟨some 9,.mov (.t 0),none⟩,
⟨some 10,.eqnil (.t 9) false 0,none⟩,
⟨some 11,.mov (.t 10),none⟩,
⟨some 12,.mov (.t 0),some (11,false)⟩,
⟨some 13,.nilc (.t 12),some (11,false)⟩,
⟨some 14,.fad 0 (.t 13),some (11,false)⟩,
⟨some 15,.ld (.sc .bool) (.t 14),some (11,false)⟩,
⟨some 16,.lnot (.t 15),some (11,false)⟩,
⟨some 17,.pick (.t 11) (.c (Go.Value.bool true)) (.t 16),none⟩,
⟨some 18,.mov (.t 17),none⟩,
⟨some 19,.mov (.t 0),some (18,false)⟩,
⟨some 20,.nilc (.t 19),some (18,false)⟩,
⟨some 21,.fad 4 (.t 20),some (18,false)⟩,
⟨some 22,.ld (.sc .bool) (.t 21),some (18,false)⟩,
⟨some 23,.pick (.t 18) (.c (Go.Value.bool true)) (.t 22),none⟩,
⟨some 24,.mov (.t 23),none⟩,
⟨some 25,.mov (.t 0),some (24,false)⟩,
⟨some 26,.nilc (.t 25),some (24,false)⟩,
⟨some 27,.fad 5 (.t 26),some (24,false)⟩,
⟨some 28,.ld (.sc .bool) (.t 27),some (24,false)⟩,
⟨some 29,.pick (.t 24) (.c (Go.Value.bool true)) (.t 28),none⟩] [0,1,2,3,29]) (.cond (.t 29) (.seq (.reg [⟨some 8,.mov (.c (Go.Value.int Go.IntKind.i64 6)),none⟩] [8]) .ret) .skip))
def R10_Tree_Set_f : IFn := ⟨58,[.t 8],(.seq (.reg [⟨some 8,.mov (.c (Go.Value.int Go.IntKind.i64 0)),none⟩] [0,1,2,3]) (.seq (.opq 0 [0,1,2,3] R10_Tree_Set_i0) (.seq (.opq 1 [0,1,2,3] R10_Tree_Set_i1) (.seq (.reg [⟨some 43,.mov (.t 0),none⟩,
⟨some 44,.nilc (.t 43),none⟩,
⟨some 45,.fad 3 (.t 44),none⟩,
⟨some 46,.ld (.sc .slc) (.t 45),none⟩,
⟨some 47,.mov (.t 2),none⟩,
⟨some 48,.mov (.t 0),none⟩,
⟨some 49,.nilc (.t 48),none⟩,
⟨some 50,.fad 1 (.t 49),none⟩,
⟨some 51,.ld (.sc (.int .i64)) (.t 50),none⟩,
⟨some 52,.bin .mul .i64 (.t 47) (.t 51),none⟩,
⟨some 53,.mov (.t 1),none⟩,
⟨some 54,.bin .add .i64 (.t 52) (.t 53),none⟩,
⟨some 55,.mov (.t 3),none⟩,
⟨some 56,.ids 3 (.t 46) (.t 54),none⟩,
⟨some 57,.fad 0 (.t 56),none⟩,
⟨none,.st 1 (.t 57) (.t 55),none⟩] []) (.seq (.reg [⟨some 8,.mov (.c (Go.Value.int Go.IntKind.i64 0)),none⟩] [8]) .ret)))))⟩
theorem R10_Tree_Set_e1 {R : Type} (R10_Tree_leaf : R10_Tree_leaf_t R) (R10_Tree_Set_p0 : R10_Tree_Set_p0_t R) (R10_Tree_Set_p1 : R10_Tree_Set_p1_t R) (k : Nat) (p196 : Oa) (n197 : Int) (n198 : Int) (n199 : Int) (H : Heap) (K : Xit → Env → Heap → Option R) : evJ (R10_Tree_Set_Ct R10_Tree_leaf) (R10_Tree_Set_Jt k R10_Tree_Set_p0 R10_Tree_Set_p1) R10_Tree_Set_i1 (List.zip [0,1,2,3] [.pointer p196,.int .i64 n197,.int .i64 n198,.int .i64 n199]) H (fun x e' H' => K x (clean e' ((⟨[0,1,2,3],[],[8]⟩ : Out).of x)) H') = R10_Tree_Set_p1_b R10_Tree_leaf k p196 n197 n198 n199 H (fun p1589 n1590 n1591 n1592 => K .normal [(0,.pointer p1589),(1,.int .i64 n1590),(2,.int .i64 n1591),(3,.int .i64 n1592)] H) (fun n1593 => K .ret [(8,.int .i64 n1593)] H) := by kernel_rfl
theorem R10_Tree_Set_j1 {R : Type} (k : Nat) : JS Try.prog 58 (R10_Tree_Set_a1 R k k) [0,1,2,3] ⟨[0,1,2,3],[],[8]⟩ (sel [1,1,0] (Try.f20.body.getD .skip)) :=
  piece_ok (nt := 58) (c := (sel [1,1,0] (Try.f20.body.getD .skip))) (C := R10_Tree_Set_C R k) (an := An) (t := (.seq (.reg [0,1,2,3,42] []) (.cond (.seq (.reg [8] []) .leaf) .leaf))) (ic := R10_Tree_Set_i1) (R10_Tree_Set_S R k) (R10_Tree_Set_J R k) (by kernel_rfl) (And.intro True.intro (And.intro (And.intro True.intro True.intro) True.intro)) (R10_Tree_Set_a1 R k k)
    (fun vals H K r h => by
      unfold R10_Tree_Set_a1 R10_Tree_Set_aa1 at h
      split at h <;> first | (cases h; done) | exact Eq.trans (R10_Tree_Set_e1 R10_Tree_leaf (R10_Tree_Set_p0 k) (R10_Tree_Set_p1 k) k _ _ _ _ H K) h)
theorem R10_Tree_Set_e0 {R : Type} (R10_Tree_leaf : R10_Tree_leaf_t R) (R10_Tree_Set_p0 : R10_Tree_Set_p0_t R) (R10_Tree_Set_p1 : R10_Tree_Set_p1_t R) (k : Nat) (p174 : Oa) (n175 : Int) (n176 : Int) (n177 : Int) (H : Heap) (K : Xit → Env → Heap → Option R) : evJ (R10_Tree_Set_Ct R10_Tree_leaf) (R10_Tree_Set_Jt k R10_Tree_Set_p0 R10_Tree_Set_p1) R10_Tree_Set_i0 (List.zip [0,1,2,3] [.pointer p174,.int .i64 n175,.int .i64 n176,.int .i64 n177]) H (fun x e' H' => K x (clean e' ((⟨[0,1,2,3],[],[8]⟩ : Out).of x)) H') = R10_Tree_Set_p0_b k p174 n175 n176 n177 H (fun p1584 n1585 n1586 n1587 => K .normal [(0,.pointer p1584),(1,.int .i64 n1585),(2,.int .i64 n1586),(3,.int .i64 n1587)] H) (fun n1588 => K .ret [(8,.int .i64 n1588)] H) := by kernel_rfl
theorem R10_Tree_Set_j0 {R : Type} (k : Nat) : JS Try.prog 58 (R10_Tree_Set_a0 R k k) [0,1,2,3] ⟨[0,1,2,3],[],[8]⟩ (sel [1,0] (Try.f20.body.getD .skip)) :=
  piece_ok (nt := 58) (c := (sel [1,0] (Try.f20.body.getD .skip))) (C := R10_Tree_Set_C R k) (an := An) (t := (.seq (.reg [0,1,2,3,29] []) (.cond (.seq (.reg [8] []) .leaf) .leaf))) (ic := R10_Tree_Set_i0) (R10_Tree_Set_S R k) (R10_Tree_Set_J R k) (by kernel_rfl) (And.intro True.intro (And.intro (And.intro True.intro True.intro) True.intro)) (R10_Tree_Set_a0 R k k)
    (fun vals H K r h => by
      unfold R10_Tree_Set_a0 R10_Tree_Set_aa0 at h
      split at h <;> first | (cases h; done) | exact Eq.trans (R10_Tree_Set_e0 R10_Tree_leaf (R10_Tree_Set_p0 k) (R10_Tree_Set_p1 k) k _ _ _ _ H K) h)
def R10_Tree_Set_ca {R : Type} (f : R10_Tree_Set_t R) (args : List Value) (H : Heap) (K : Value → Heap → Option R) : Option R :=
  match args with
  | [.pointer p170,.int .i64 n171,.int .i64 n172,.int .i64 n173] => f p170 n171 n172 n173 H (fun n1594 H => K (.int .i64 n1594) H)
  | _ => none
def R10_Tree_Set_c (R : Type) (k : Nat) (args : List Value) (H : Heap) (K : Value → Heap → Option R) : Option R := R10_Tree_Set_ca (R10_Tree_Set k) args H K
theorem R10_Tree_Set_e {R : Type} (R10_Tree_leaf : R10_Tree_leaf_t R) (R10_Tree_Set_p0 : R10_Tree_Set_p0_t R) (R10_Tree_Set_p1 : R10_Tree_Set_p1_t R) (k : Nat) (p170 : Oa) (n171 : Int) (n172 : Int) (n173 : Int) (H : Heap) (K : Value → Heap → Option R) : evF (R10_Tree_Set_Ct R10_Tree_leaf) (R10_Tree_Set_Jt k R10_Tree_Set_p0 R10_Tree_Set_p1) R10_Tree_Set_f [.pointer p170,.int .i64 n171,.int .i64 n172,.int .i64 n173] H K = R10_Tree_Set_b R10_Tree_Set_p0 R10_Tree_Set_p1 k p170 n171 n172 n173 H (fun n1594 H => K (.int .i64 n1594) H) := by kernel_rfl
theorem R10_Tree_Set_cs (R : Type) (k : Nat) : ∀ args H K r,R10_Tree_Set_c R k args H K = some r → ∃ v H',Tri Try.prog 20 args H v H' ∧ K v H' = some r := by
  intro args H K r h
  unfold R10_Tree_Set_c R10_Tree_Set_ca at h
  split at h
  · exact evF_ok (C := R10_Tree_Set_C R k) (an := An) (t := R10_Tree_Set_at) (fn := Try.f20) (c := (Try.f20.body.getD .skip)) (ifn := R10_Tree_Set_f) (R10_Tree_Set_S R k) (R10_Tree_Set_J R k) Try.func20 (by kernel_rfl) (by kernel_rfl) (And.intro True.intro (And.intro (R10_Tree_Set_j0 k) (And.intro (R10_Tree_Set_j1 k) (And.intro True.intro (And.intro True.intro True.intro))))) rfl (Eq.trans (R10_Tree_Set_e R10_Tree_leaf (R10_Tree_Set_p0 k) (R10_Tree_Set_p1 k) k _ _ _ _ H K) h)
  · cases h
/-! ### R10_Tree_path: function 49 -/
abbrev R10_Tree_path_l0_t (R : Type) : Type := (Oa → Nat → Nat → Heap → Option R) → Nat → Int → Int → Oa → Nat → Nat → Int → Int → Int → Heap → Option R
def R10_Tree_path_l0_b {R : Type} (rec : Int → Int → Oa → Nat → Nat → Int → Int → Int → Heap → Option R) (KR : Oa → Nat → Nat → Heap → Option R) (k : Nat) (n320 : Int) (n321 : Int) (q322 : Oa) (l323 : Nat) (c324 : Nat) (n325 : Int) (n326 : Int) (n327 : Int) (H : Heap) : Option R :=
hal H [.int .i64 (IntKind.wrap .i64 ((IntKind.wrap .i64 (n327 + (IntKind.wrap .i64 (n321 * n325)))) + n320))] fun p328 H329 =>
happS 1 8 H329 p328 1 1 q322 l323 fun q330 l331 c332 H333 =>
bif ((IntKind.wrap .i64 (n325 * n326)) == 1) then (KR q330 l331 c332 H333)
 else (rec (IntKind.wrap .i64 (Int.tdiv n320 2)) (IntKind.wrap .i64 (Int.tdiv n321 2)) q330 l331 c332 (IntKind.wrap .i64 (Int.tdiv (IntKind.wrap .i64 (n325 + 1)) 2)) (IntKind.wrap .i64 (Int.tdiv (IntKind.wrap .i64 (n326 + 1)) 2)) (IntKind.wrap .i64 (n327 + (IntKind.wrap .i64 (n325 * n326)))) H333)
def R10_Tree_path_l0 {R : Type} (k : Nat) (KR : Oa → Nat → Nat → Heap → Option R) : Nat → Int → Int → Oa → Nat → Nat → Int → Int → Int → Heap → Option R
  | 0,_,_,_,_,_,_,_,_,_ => none
  | n + 1,n320,n321,q322,l323,c324,n325,n326,n327,H => R10_Tree_path_l0_b (R10_Tree_path_l0 k KR n) KR k n320 n321 q322 l323 c324 n325 n326 n327 H

abbrev R10_Tree_path_t (R : Type) : Type := Oa → Int → Int → Heap → (Oa → Nat → Nat → Heap → Option R) → Option R

def R10_Tree_path_b {R : Type} (R10_Tree_path_l0 : R10_Tree_path_l0_t R) (k : Nat) (p311 : Oa) (n312 : Int) (n313 : Int) (H : Heap) (K : Oa → Nat → Nat → Heap → Option R) : Option R :=
hnil p311 fun p314 =>
hfad 1 p314 fun p315 =>
ldI .i64 H p315 fun n316 =>
hnil p311 fun p317 =>
hfad 2 p317 fun p318 =>
ldI .i64 H p318 fun n319 =>
R10_Tree_path_l0 (fun q337 l338 c339 H340 =>
K q337 l338 c339 H340) k n312 n313 none 0 0 n316 n319 0 H

def R10_Tree_path {R : Type} (k : Nat) (p311 : Oa) (n312 : Int) (n313 : Int) (H : Heap) (K : Oa → Nat → Nat → Heap → Option R) : Option R := R10_Tree_path_b (R10_Tree_path_l0 k) k p311 n312 n313 H K

def R10_Tree_path_Ct {R : Type} : Tab R := fun _ _ _ _ => none
def R10_Tree_path_C (R : Type) (k : Nat) : Tab R := R10_Tree_path_Ct
theorem R10_Tree_path_S (R : Type) (k : Nat) : CSound Try.prog (R10_Tree_path_C R k) := csound_nil
def R10_Tree_path_aa0 {R : Type} (f : R10_Tree_path_l0_t R) (n : Nat) (vals : List Value) (H : Heap) (K : Xit → Env → Heap → Option R) : Option R :=
  match vals with
  | [.int .i64 n320,.int .i64 n321,.slice q322 l323 c324,.int .i64 n325,.int .i64 n326,.int .i64 n327] => f (fun q1595 l1596 c1597 H => K .ret [(6,.slice q1595 l1596 c1597)] H) n n320 n321 q322 l323 c324 n325 n326 n327 H
  | _ => none
def R10_Tree_path_a0 (R : Type) (k n : Nat) (vals : List Value) (H : Heap) (K : Xit → Env → Heap → Option R) : Option R := R10_Tree_path_aa0 (R10_Tree_path_l0 k) n vals H K
def R10_Tree_path_Jt {R : Type} (k : Nat) (R10_Tree_path_l0 : R10_Tree_path_l0_t R) : JTab R := tcons 0 (R10_Tree_path_aa0 R10_Tree_path_l0 k) <| fun _ _ _ _ => none
def R10_Tree_path_J (R : Type) (k : Nat) : JTab R := R10_Tree_path_Jt k (R10_Tree_path_l0 k)
def R10_Tree_path_at : AT := (.seq (.reg [0,1,2] []) (.seq (.reg [0,1,2,7] []) (.seq (.reg [1,2,7,8,9,10] [[],[0],[0,1],[0,1,2],[],[4],[4,5],[4,5,6],[0,1,2,3],[0,1,2,3,4,5,6,7,8],[0,1,2,3,4,5,6,7,8,9]]) (.node (.opq 0 [1,2,7,8,9,10] ⟨[],[],[6]⟩ (.node (.node (.seq (.reg [1,2,7,8,9,10] []) (.seq (.seq (.reg [1,2,7,8,9,10,32] []) (.cond (.seq (.reg [6] []) .leaf) .leaf)) (.seq (.reg [1,2,7,8,9,10] []) (.reg [1,2,7,8,9,10] [])))))))))))
def R10_Tree_path_i0 : IC := (.block 1 (.seq (.reg [⟨some 19,.mov (.t 10),none⟩,
⟨some 20,.mov (.t 2),none⟩,
⟨some 21,.mov (.t 8),none⟩,
⟨some 22,.bin .mul .i64 (.t 20) (.t 21),none⟩,
⟨some 23,.bin .add .i64 (.t 19) (.t 22),none⟩,
⟨some 24,.mov (.t 1),none⟩,
⟨some 25,.bin .add .i64 (.t 23) (.t 24),none⟩,
⟨some 26,.bls 1 [.int .i64 0] [(0,1,(.t 25))],none⟩,
⟨some 27,.mov (.t 7),none⟩,
⟨some 28,.app [.int .i64 0] 8 (.t 26) (.t 27),none⟩,
⟨some 7,.mov (.t 28),none⟩] [1,2,7,8,9,10]) (.seq (.seq (.reg [⟨some 29,.mov (.t 8),none⟩,
⟨some 30,.mov (.t 9),none⟩,
⟨some 31,.bin .mul .i64 (.t 29) (.t 30),none⟩,
⟨some 32,.cmp .eql (.t 31) (.c (Go.Value.int Go.IntKind.i64 1)),none⟩] [1,2,7,8,9,10,32]) (.cond (.t 32) (.seq (.reg [⟨some 33,.mov (.t 7),none⟩,
⟨some 6,.mov (.t 33),none⟩] [6]) .ret) .skip)) (.seq (.reg [⟨some 34,.mov (.t 10),none⟩,
⟨some 35,.mov (.t 8),none⟩,
⟨some 36,.mov (.t 9),none⟩,
⟨some 37,.bin .mul .i64 (.t 35) (.t 36),none⟩,
⟨some 38,.bin .add .i64 (.t 34) (.t 37),none⟩,
⟨some 10,.mov (.t 38),none⟩] [1,2,7,8,9,10]) (.reg [⟨some 39,.mov (.t 8),none⟩,
⟨some 40,.bin .add .i64 (.t 39) (.c (Go.Value.int Go.IntKind.i64 1)),none⟩,
⟨some 41,.bin .quo .i64 (.t 40) (.c (Go.Value.int Go.IntKind.i64 2)),none⟩,
⟨some 42,.mov (.t 9),none⟩,
⟨some 43,.bin .add .i64 (.t 42) (.c (Go.Value.int Go.IntKind.i64 1)),none⟩,
⟨some 44,.bin .quo .i64 (.t 43) (.c (Go.Value.int Go.IntKind.i64 2)),none⟩,
⟨some 45,.mov (.t 1),none⟩,
⟨some 46,.bin .quo .i64 (.t 45) (.c (Go.Value.int Go.IntKind.i64 2)),none⟩,
⟨some 47,.mov (.t 2),none⟩,
⟨some 48,.bin .quo .i64 (.t 47) (.c (Go.Value.int Go.IntKind.i64 2)),none⟩,
⟨some 8,.mov (.t 41),none⟩,
⟨some 9,.mov (.t 44),none⟩,
⟨some 1,.mov (.t 46),none⟩,
⟨some 2,.mov (.t 48),none⟩] [1,2,7,8,9,10])))))
def R10_Tree_path_f : IFn := ⟨49,[.t 6],(.seq (.reg [⟨some 6,.mov (.c (Go.Value.slice none 0 0)),none⟩] [0,1,2]) (.seq (.reg [⟨some 7,.mov (.c (Go.Value.slice none 0 0)),none⟩] [0,1,2,7]) (.seq (.reg [⟨some 11,.mov (.t 0),none⟩,
⟨some 12,.nilc (.t 11),none⟩,
⟨some 13,.fad 1 (.t 12),none⟩,
⟨some 14,.ld (.sc (.int .i64)) (.t 13),none⟩,
⟨some 15,.mov (.t 0),none⟩,
⟨some 16,.nilc (.t 15),none⟩,
⟨some 17,.fad 2 (.t 16),none⟩,
⟨some 18,.ld (.sc (.int .i64)) (.t 17),none⟩,
⟨some 8,.mov (.t 14),none⟩,
⟨some 9,.mov (.t 18),none⟩,
⟨some 10,.mov (.c (Go.Value.int Go.IntKind.i64 0)),none⟩] [1,2,7,8,9,10]) (.block 0 (.opq 0 [1,2,7,8,9,10] (.loop R10_Tree_path_i0))))))⟩
theorem R10_Tree_path_e0 {R : Type} (R10_Tree_path_l0 : R10_Tree_path_l0_t R) (k n : Nat) (n320 : Int) (n321 : Int) (q322 : Oa) (l323 : Nat) (c324 : Nat) (n325 : Int) (n326 : Int) (n327 : Int) (H : Heap) (K : Xit → Env → Heap → Option R) : evJ (R10_Tree_path_Ct) (R10_Tree_path_Jt k R10_Tree_path_l0) R10_Tree_path_i0 (List.zip [1,2,7,8,9,10] [.int .i64 n320,.int .i64 n321,.slice q322 l323 c324,.int .i64 n325,.int .i64 n326,.int .i64 n327]) H (fun x e' H' => match x with | .normal => R10_Tree_path_aa0 R10_Tree_path_l0 n ((clean e' [1,2,7,8,9,10]).map (·.2)) H' K | x => K x (clean e' ((⟨[],[],[6]⟩ : Out).of x)) H') = R10_Tree_path_l0_b (R10_Tree_path_l0 (fun q1595 l1596 c1597 H => K .ret [(6,.slice q1595 l1596 c1597)] H) n) (fun q1595 l1596 c1597 H => K .ret [(6,.slice q1595 l1596 c1597)] H) k n320 n321 q322 l323 c324 n325 n326 n327 H := by kernel_rfl
theorem R10_Tree_path_j0 {R : Type} (k : Nat) : JS Try.prog 49 (R10_Tree_path_a0 R k k) [1,2,7,8,9,10] ⟨[],[],[6]⟩ (.loop (sel [1,1,1,0,0] (Try.f49.body.getD .skip))) :=
  loop_ok (nt := 49) (c := (sel [1,1,1,0,0] (Try.f49.body.getD .skip))) (C := R10_Tree_path_C R k) (an := An) (t := (.node (.seq (.reg [1,2,7,8,9,10] []) (.seq (.seq (.reg [1,2,7,8,9,10,32] []) (.cond (.seq (.reg [6] []) .leaf) .leaf)) (.seq (.reg [1,2,7,8,9,10] []) (.reg [1,2,7,8,9,10] [])))))) (ic := R10_Tree_path_i0) (R10_Tree_path_S R k) (R10_Tree_path_J R k) (by kernel_rfl) (And.intro True.intro (And.intro (And.intro True.intro (And.intro (And.intro True.intro True.intro) True.intro)) (And.intro True.intro True.intro))) (R10_Tree_path_a0 R k) (fun vals H K => by unfold R10_Tree_path_a0 R10_Tree_path_aa0; split <;> rfl)
    (fun n vals H K r h => by
      unfold R10_Tree_path_a0 R10_Tree_path_aa0 at h
      split at h <;> first | (cases h; done) | exact Eq.trans (R10_Tree_path_e0 (R10_Tree_path_l0 k) k n _ _ _ _ _ _ _ _ H K) h) k
def R10_Tree_path_ca {R : Type} (f : R10_Tree_path_t R) (args : List Value) (H : Heap) (K : Value → Heap → Option R) : Option R :=
  match args with
  | [.pointer p311,.int .i64 n312,.int .i64 n313] => f p311 n312 n313 H (fun q1598 l1599 c1600 H => K (.slice q1598 l1599 c1600) H)
  | _ => none
def R10_Tree_path_c (R : Type) (k : Nat) (args : List Value) (H : Heap) (K : Value → Heap → Option R) : Option R := R10_Tree_path_ca (R10_Tree_path k) args H K
theorem R10_Tree_path_e {R : Type} (R10_Tree_path_l0 : R10_Tree_path_l0_t R) (k : Nat) (p311 : Oa) (n312 : Int) (n313 : Int) (H : Heap) (K : Value → Heap → Option R) : evF (R10_Tree_path_Ct) (R10_Tree_path_Jt k R10_Tree_path_l0) R10_Tree_path_f [.pointer p311,.int .i64 n312,.int .i64 n313] H K = R10_Tree_path_b R10_Tree_path_l0 k p311 n312 n313 H (fun q1598 l1599 c1600 H => K (.slice q1598 l1599 c1600) H) := by kernel_rfl
theorem R10_Tree_path_cs (R : Type) (k : Nat) : ∀ args H K r,R10_Tree_path_c R k args H K = some r → ∃ v H',Tri Try.prog 49 args H v H' ∧ K v H' = some r := by
  intro args H K r h
  unfold R10_Tree_path_c R10_Tree_path_ca at h
  split at h
  · exact evF_ok (C := R10_Tree_path_C R k) (an := An) (t := R10_Tree_path_at) (fn := Try.f49) (c := (Try.f49.body.getD .skip)) (ifn := R10_Tree_path_f) (R10_Tree_path_S R k) (R10_Tree_path_J R k) Try.func49 (by kernel_rfl) (by kernel_rfl) (And.intro True.intro (And.intro True.intro (And.intro True.intro (R10_Tree_path_j0 k)))) rfl (Eq.trans (R10_Tree_path_e (R10_Tree_path_l0 k) k _ _ _ H K) h)
  · cases h
/-! ### R10_Tree_Value: function 26 -/
abbrev R10_Tree_Value_p0_t (R : Type) : Type := Oa → Int → Int → Heap → (Oa → Int → Int → Option R) → (Int → Bool → Option R) → Option R
def R10_Tree_Value_p0_b {R : Type} (R10_Tree_leaf : R10_Tree_leaf_t R) (k : Nat) (p491 : Oa) (n492 : Int) (n493 : Int) (H : Heap) (KN : Oa → Int → Int → Option R) (KR : Int → Bool → Option R) : Option R :=
bif p491.isNone then (KR 0 false)
 else (hnil p491 fun p494 =>
hfad 0 p494 fun p495 =>
ldB H p495 fun t496 =>
bif (!t496) then (KR 0 false)
 else (R10_Tree_leaf p491 n492 n493 H fun t497 =>
bif (!t497) then (KR 0 false)
 else (hnil p491 fun p498 =>
hfad 3 p498 fun p499 =>
ldL H p499 fun q500 l501 c502 =>
hnil p491 fun p503 =>
hfad 1 p503 fun p504 =>
ldI .i64 H p504 fun n505 =>
hidx q500 l501 (IntKind.wrap .i64 ((IntKind.wrap .i64 (n493 * n505)) + n492)) 3 fun p506 =>
hfad 2 p506 fun p507 =>
ldB H p507 fun t508 =>
bif (!t508) then (KR 0 false)
 else (KN p491 n492 n493))))
def R10_Tree_Value_p0 {R : Type} (k : Nat) (p491 : Oa) (n492 : Int) (n493 : Int) (H : Heap) (KN : Oa → Int → Int → Option R) (KR : Int → Bool → Option R) : Option R := R10_Tree_Value_p0_b R10_Tree_leaf k p491 n492 n493 H KN KR

abbrev R10_Tree_Value_t (R : Type) : Type := Oa → Int → Int → Heap → (Int → Bool → Option R) → Option R

def R10_Tree_Value_b {R : Type} (R10_Tree_Value_p0 : R10_Tree_Value_p0_t R) (k : Nat) (p488 : Oa) (n489 : Int) (n490 : Int) (H : Heap) (K : Int → Bool → Option R) : Option R :=
R10_Tree_Value_p0 p488 n489 n490 H (fun p514 n515 n516 =>
hnil p514 fun p517 =>
hfad 3 p517 fun p518 =>
ldL H p518 fun q519 l520 c521 =>
hnil p514 fun p522 =>
hfad 1 p522 fun p523 =>
ldI .i64 H p523 fun n524 =>
hidx q519 l520 (IntKind.wrap .i64 ((IntKind.wrap .i64 (n516 * n524)) + n515)) 3 fun p525 =>
hfad 1 p525 fun p526 =>
ldI .i64 H p526 fun n527 =>
K n527 true) (fun n528 t529 =>
K n528 t529)

def R10_Tree_Value {R : Type} (k : Nat) (p488 : Oa) (n489 : Int) (n490 : Int) (H : Heap) (K : Int → Bool → Option R) : Option R := R10_Tree_Value_b (R10_Tree_Value_p0 k) k p488 n489 n490 H K

def R10_Tree_Value_Ct {R : Type} (R10_Tree_leaf : R10_Tree_leaf_t R) : Tab R := tcons 41 (R10_Tree_leaf_ca R10_Tree_leaf) <| fun _ _ _ _ => none
def R10_Tree_Value_C (R : Type) (k : Nat) : Tab R := R10_Tree_Value_Ct R10_Tree_leaf
theorem R10_Tree_Value_S (R : Type) (k : Nat) : CSound Try.prog (R10_Tree_Value_C R k) := csound_cons (R10_Tree_leaf_cs R k) <| csound_nil
def R10_Tree_Value_aa0 {R : Type} (f : R10_Tree_Value_p0_t R) (n : Nat) (vals : List Value) (H : Heap) (K : Xit → Env → Heap → Option R) : Option R :=
  match vals with
  | [.pointer p491,.int .i64 n492,.int .i64 n493] => f p491 n492 n493 H (fun p1601 n1602 n1603 => K .normal [(0,.pointer p1601),(1,.int .i64 n1602),(2,.int .i64 n1603)] H) (fun n1604 t1605 => K .ret [(6,.int .i64 n1604),(7,.bool t1605)] H)
  | _ => none
def R10_Tree_Value_a0 (R : Type) (k n : Nat) (vals : List Value) (H : Heap) (K : Xit → Env → Heap → Option R) : Option R := R10_Tree_Value_aa0 (R10_Tree_Value_p0 k) n vals H K
def R10_Tree_Value_Jt {R : Type} (k : Nat) (R10_Tree_Value_p0 : R10_Tree_Value_p0_t R) : JTab R := tcons 0 (R10_Tree_Value_aa0 R10_Tree_Value_p0 k) <| fun _ _ _ _ => none
def R10_Tree_Value_J (R : Type) (k : Nat) : JTab R := R10_Tree_Value_Jt k (R10_Tree_Value_p0 k)
def R10_Tree_Value_at : AT := (.seq (.reg [0,1,2] []) (.seq (.opq 0 [0,1,2] ⟨[0,1,2],[],[6,7]⟩ (.seq (.reg [0,1,2,41] [[],[0],[0,1],[0,1,2],[0,1,2,3],[0,1,2,3,4],[0,1,2,3,4,5],[0,1,2,3,4,5,6],[0,1,2,3,4,5,6,7],[0,1,2,3,4,5,6,7,8],[0,1,2,3,4,5,6,7,8,9],[0,1,2,3,4,5,6,7,8,9],[0,1,2,3,4,5,6,7,8,9],[0,1,2,3,4,5,6,7,8,9,10,11,12],[0,1,2,3,4,5,6,7,8,9,10,11,12,13],[0,1,2,3,4,5,6,7,8,9,10,11,12,13,14],[0,1,2,3,4,5,6,7,8,9,10,11,12,13,14,15],[0,1,2,3,4,5,6,7,8,9,10,11,12,13,14,15,16],[0,1,2,3,4,5,6,7,8,9,10,11,12,13,14,15,16,17],[0,1,2,3,4,5,6,7,8,9,10,11,12,13,14,15,16,17,18],[0,1,2,3,4,5,6,7,8,9,10,11,12,13,14,15,16,17,18,19],[0,1,2,3,4,5,6,7,8,9,10,11,12,13,14,15,16],[0,1,2,3,4,5,6,7,8,9,10,11,12,13,14,15,16],[0,1,2,3,4,5,6,7,8,9,10,11,12,13,14,15,16,22],[0,1,2,3,4,5,6,7,8,9,10,11,12,13,14,15,16,22,23],[0,1,2,3,4,5,6,7,8,9,10,11,12,13,14,15,16,22,23,24],[0,1,2,3,4,5,6,7,8,9,10,11,12,13,14,15,16,21,22,23,24,25],[0,1,2,3,4,5,6,7,8,9,10,11,12,13,14,15,16],[0,1,2,3,4,5,6,7,8,9,10,11,12,13,14,15,16,21,22,23,24,25,26,27],[0,1,2,3,4,5,6,7,8,9,10,11,12,13,14,15,16,17,18,19,20,21,22,23,24,25,26,27,28],[0,1,2,3,4,5,6,7,8,9,10,11,12,13,14,15,16,17,18,19,20,21,22,23,24,25,26,27,28,29],[0,1,2,3,4,5,6,7,8,9,10,11,12,13,14,15,16,17,18,19,20,21,22,23,24,25,26,27,28,29,30],[0,1,2,3,4,5,6,7,8,9,10,11,12,13,14,15,16,17,18,19,20,21,22,23,24,25,26,27,28,29,30,31],[0,1,2,3,4,5,6,7,8,9,10,11,12,13,14,15,16,17,18,19,20,21,22,23,24,25,26,27,28,29,30,31,32]]) (.cond (.seq (.reg [6,7] []) .leaf) .leaf))) (.seq (.reg [6,7] [[],[0],[0,1],[0,1,2],[],[],[5],[5,6],[5,6,7],[4,5,6,7,8],[],[4,5,6,7,8,9,10],[0,1,2,3,4,5,6,7,8,9,10,11],[0,1,2,3,4,5,6,7,8,9,10,11,12],[0,1,2,3,4,5,6,7,8,9,10,11,12,13],[0,1,2,3,4,5,6,7,8,9,10,11,12,13,14],[0,1,2,3,4,5,6,7,8,9,10,11,12,13,14,15]]) .leaf)))
def R10_Tree_Value_i0 : IC := (.seq (.reg [⟨some 8,.mov (.t 0),none⟩,
⟨some 9,.eqnil (.t 8) false 0,none⟩,
⟨some 10,.mov (.t 9),none⟩,
⟨some 11,.mov (.t 0),some (10,false)⟩,
⟨some 12,.nilc (.t 11),some (10,false)⟩,
⟨some 13,.fad 0 (.t 12),some (10,false)⟩,
⟨some 14,.ld (.sc .bool) (.t 13),some (10,false)⟩,
⟨some 15,.lnot (.t 14),some (10,false)⟩,
⟨some 16,.pick (.t 10) (.c (Go.Value.bool true)) (.t 15),none⟩,
⟨some 17,.mov (.t 16),none⟩,
⟨some 18,.mov (.t 0),some (17,false)⟩,
⟨some 19,.mov (.t 1),some (17,false)⟩,
⟨some 20,.mov (.t 2),some (17,false)⟩,
⟨some 21,.call 41 [(.t 18),(.t 19),(.t 20)] (.one (.sc .bool)),some (17,false)⟩,
⟨some 22,.lnot (.t 21),some (17,false)⟩,
⟨some 23,.pick (.t 17) (.c (Go.Value.bool true)) (.t 22),none⟩,
⟨some 24,.mov (.t 23),none⟩,
⟨some 25,.mov (.t 0),some (24,false)⟩,
⟨some 26,.nilc (.t 25),some (24,false)⟩,
⟨some 27,.fad 3 (.t 26),some (24,false)⟩,
⟨some 28,.ld (.sc .slc) (.t 27),some (24,false)⟩,
⟨some 29,.mov (.t 2),some (24,false)⟩,
⟨some 30,.mov (.t 0),some (24,false)⟩,
⟨some 31,.nilc (.t 30),some (24,false)⟩,
⟨some 32,.fad 1 (.t 31),some (24,false)⟩,
⟨some 33,.ld (.sc (.int .i64)) (.t 32),some (24,false)⟩,
⟨some 34,.bin .mul .i64 (.t 29) (.t 33),some (24,false)⟩,
⟨some 35,.mov (.t 1),some (24,false)⟩,
⟨some 36,.bin .add .i64 (.t 34) (.t 35),some (24,false)⟩,
⟨some 37,.ids 3 (.t 28) (.t 36),some (24,false)⟩,
⟨some 38,.fad 2 (.t 37),some (24,false)⟩,
⟨some 39,.ld (.sc .bool) (.t 38),some (24,false)⟩,
⟨some 40,.lnot (.t 39),some (24,false)⟩,
⟨some 41,.pick (.t 24) (.c (Go.Value.bool true)) (.t 40),none⟩] [0,1,2,41]) (.cond (.t 41) (.seq (.reg [⟨some 6,.mov (.c (Go.Value.int Go.IntKind.i64 0)),none⟩,
⟨some 7,.mov (.c (Go.Value.bool false)),none⟩] [6,7]) .ret) .skip))
def R10_Tree_Value_f : IFn := ⟨57,[.t 6,.t 7],(.seq (.reg [⟨some 6,.mov (.c (Go.Value.int Go.IntKind.i64 0)),none⟩,
⟨some 7,.mov (.c (Go.Value.bool false)),none⟩] [0,1,2]) (.seq (.opq 0 [0,1,2] R10_Tree_Value_i0) (.seq (.reg [⟨some 42,.mov (.t 0),none⟩,
⟨some 43,.nilc (.t 42),none⟩,
⟨some 44,.fad 3 (.t 43),none⟩,
⟨some 45,.ld (.sc .slc) (.t 44),none⟩,
⟨some 46,.mov (.t 2),none⟩,
⟨some 47,.mov (.t 0),none⟩,
⟨some 48,.nilc (.t 47),none⟩,
⟨some 49,.fad 1 (.t 48),none⟩,
⟨some 50,.ld (.sc (.int .i64)) (.t 49),none⟩,
⟨some 51,.bin .mul .i64 (.t 46) (.t 50),none⟩,
⟨some 52,.mov (.t 1),none⟩,
⟨some 53,.bin .add .i64 (.t 51) (.t 52),none⟩,
⟨some 54,.ids 3 (.t 45) (.t 53),none⟩,
⟨some 55,.fad 1 (.t 54),none⟩,
⟨some 56,.ld (.sc (.int .i64)) (.t 55),none⟩,
⟨some 6,.mov (.t 56),none⟩,
⟨some 7,.mov (.c (Go.Value.bool true)),none⟩] [6,7]) .ret)))⟩
theorem R10_Tree_Value_e0 {R : Type} (R10_Tree_leaf : R10_Tree_leaf_t R) (R10_Tree_Value_p0 : R10_Tree_Value_p0_t R) (k : Nat) (p491 : Oa) (n492 : Int) (n493 : Int) (H : Heap) (K : Xit → Env → Heap → Option R) : evJ (R10_Tree_Value_Ct R10_Tree_leaf) (R10_Tree_Value_Jt k R10_Tree_Value_p0) R10_Tree_Value_i0 (List.zip [0,1,2] [.pointer p491,.int .i64 n492,.int .i64 n493]) H (fun x e' H' => K x (clean e' ((⟨[0,1,2],[],[6,7]⟩ : Out).of x)) H') = R10_Tree_Value_p0_b R10_Tree_leaf k p491 n492 n493 H (fun p1601 n1602 n1603 => K .normal [(0,.pointer p1601),(1,.int .i64 n1602),(2,.int .i64 n1603)] H) (fun n1604 t1605 => K .ret [(6,.int .i64 n1604),(7,.bool t1605)] H) := by kernel_rfl
theorem R10_Tree_Value_j0 {R : Type} (k : Nat) : JS Try.prog 57 (R10_Tree_Value_a0 R k k) [0,1,2] ⟨[0,1,2],[],[6,7]⟩ (sel [1,0] (Try.f26.body.getD .skip)) :=
  piece_ok (nt := 57) (c := (sel [1,0] (Try.f26.body.getD .skip))) (C := R10_Tree_Value_C R k) (an := An) (t := (.seq (.reg [0,1,2,41] [[],[0],[0,1],[0,1,2],[0,1,2,3],[0,1,2,3,4],[0,1,2,3,4,5],[0,1,2,3,4,5,6],[0,1,2,3,4,5,6,7],[0,1,2,3,4,5,6,7,8],[0,1,2,3,4,5,6,7,8,9],[0,1,2,3,4,5,6,7,8,9],[0,1,2,3,4,5,6,7,8,9],[0,1,2,3,4,5,6,7,8,9,10,11,12],[0,1,2,3,4,5,6,7,8,9,10,11,12,13],[0,1,2,3,4,5,6,7,8,9,10,11,12,13,14],[0,1,2,3,4,5,6,7,8,9,10,11,12,13,14,15],[0,1,2,3,4,5,6,7,8,9,10,11,12,13,14,15,16],[0,1,2,3,4,5,6,7,8,9,10,11,12,13,14,15,16,17],[0,1,2,3,4,5,6,7,8,9,10,11,12,13,14,15,16,17,18],[0,1,2,3,4,5,6,7,8,9,10,11,12,13,14,15,16,17,18,19],[0,1,2,3,4,5,6,7,8,9,10,11,12,13,14,15,16],[0,1,2,3,4,5,6,7,8,9,10,11,12,13,14,15,16],[0,1,2,3,4,5,6,7,8,9,10,11,12,13,14,15,16,22],[0,1,2,3,4,5,6,7,8,9,10,11,12,13,14,15,16,22,23],[0,1,2,3,4,5,6,7,8,9,10,11,12,13,14,15,16,22,23,24],[0,1,2,3,4,5,6,7,8,9,10,11,12,13,14,15,16,21,22,23,24,25],[0,1,2,3,4,5,6,7,8,9,10,11,12,13,14,15,16],[0,1,2,3,4,5,6,7,8,9,10,11,12,13,14,15,16,21,22,23,24,25,26,27],[0,1,2,3,4,5,6,7,8,9,10,11,12,13,14,15,16,17,18,19,20,21,22,23,24,25,26,27,28],[0,1,2,3,4,5,6,7,8,9,10,11,12,13,14,15,16,17,18,19,20,21,22,23,24,25,26,27,28,29],[0,1,2,3,4,5,6,7,8,9,10,11,12,13,14,15,16,17,18,19,20,21,22,23,24,25,26,27,28,29,30],[0,1,2,3,4,5,6,7,8,9,10,11,12,13,14,15,16,17,18,19,20,21,22,23,24,25,26,27,28,29,30,31],[0,1,2,3,4,5,6,7,8,9,10,11,12,13,14,15,16,17,18,19,20,21,22,23,24,25,26,27,28,29,30,31,32]]) (.cond (.seq (.reg [6,7] []) .leaf) .leaf))) (ic := R10_Tree_Value_i0) (R10_Tree_Value_S R k) (R10_Tree_Value_J R k) (by kernel_rfl) (And.intro True.intro (And.intro (And.intro True.intro True.intro) True.intro)) (R10_Tree_Value_a0 R k k)
    (fun vals H K r h => by
      unfold R10_Tree_Value_a0 R10_Tree_Value_aa0 at h
      split at h <;> first | (cases h; done) | exact Eq.trans (R10_Tree_Value_e0 R10_Tree_leaf (R10_Tree_Value_p0 k) k _ _ _ H K) h)
def R10_Tree_Value_ca {R : Type} (f : R10_Tree_Value_t R) (args : List Value) (H : Heap) (K : Value → Heap → Option R) : Option R :=
  match args with
  | [.pointer p488,.int .i64 n489,.int .i64 n490] => f p488 n489 n490 H (fun n1606 t1607 => K (.tuple ⟨[.int .i64 n1606,.bool t1607]⟩) H)
  | _ => none
def R10_Tree_Value_c (R : Type) (k : Nat) (args : List Value) (H : Heap) (K : Value → Heap → Option R) : Option R := R10_Tree_Value_ca (R10_Tree_Value k) args H K
theorem R10_Tree_Value_e {R : Type} (R10_Tree_leaf : R10_Tree_leaf_t R) (R10_Tree_Value_p0 : R10_Tree_Value_p0_t R) (k : Nat) (p488 : Oa) (n489 : Int) (n490 : Int) (H : Heap) (K : Value → Heap → Option R) : evF (R10_Tree_Value_Ct R10_Tree_leaf) (R10_Tree_Value_Jt k R10_Tree_Value_p0) R10_Tree_Value_f [.pointer p488,.int .i64 n489,.int .i64 n490] H K = R10_Tree_Value_b R10_Tree_Value_p0 k p488 n489 n490 H (fun n1606 t1607 => K (.tuple ⟨[.int .i64 n1606,.bool t1607]⟩) H) := by kernel_rfl
theorem R10_Tree_Value_cs (R : Type) (k : Nat) : ∀ args H K r,R10_Tree_Value_c R k args H K = some r → ∃ v H',Tri Try.prog 26 args H v H' ∧ K v H' = some r := by
  intro args H K r h
  unfold R10_Tree_Value_c R10_Tree_Value_ca at h
  split at h
  · exact evF_ok (C := R10_Tree_Value_C R k) (an := An) (t := R10_Tree_Value_at) (fn := Try.f26) (c := (Try.f26.body.getD .skip)) (ifn := R10_Tree_Value_f) (R10_Tree_Value_S R k) (R10_Tree_Value_J R k) Try.func26 (by kernel_rfl) (by kernel_rfl) (And.intro True.intro (And.intro (R10_Tree_Value_j0 k) (And.intro True.intro True.intro))) rfl (Eq.trans (R10_Tree_Value_e R10_Tree_leaf (R10_Tree_Value_p0 k) k _ _ _ H K) h)
  · cases h
end Go.Proofs.Ytblkejnciinaeaa.Sh
