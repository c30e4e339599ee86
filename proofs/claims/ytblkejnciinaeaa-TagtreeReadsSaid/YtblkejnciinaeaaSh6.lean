/- Lean functions that stand for Go's,over an explicit heap,and the proofs that they do (written by this claim's program shallow.py). -/
import Derived.Test.YtblkejnciinaeaaSh0
set_option maxRecDepth 100000
set_option linter.unusedVariables false
set_option linter.unusedSimpArgs false
namespace Go.Proofs.Ytblkejnciinaeaa.Sh
open Go.Proofs.Ytblkejnciinaeaa.FW
/-! ### R10_New: function 12 -/
abbrev R10_New_p0_t (R : Type) : Type := Int → Int → (Int → Int → Option R) → (Oa → Int → Option R) → Option R
def R10_New_p0_b {R : Type} (k : Nat) (n54 : Int) (n55 : Int) (KN : Int → Int → Option R) (KR : Oa → Int → Option R) : Option R :=
bif decide (n54 < 1) then (KR none 2)
 else (bif decide (n55 < 1) then (KR none 2)
 else (KN n54 n55))
def R10_New_p0 {R : Type} (k : Nat) (n54 : Int) (n55 : Int) (KN : Int → Int → Option R) (KR : Oa → Int → Option R) : Option R := R10_New_p0_b k n54 n55 KN KR

abbrev R10_New_p1_t (R : Type) : Type := Int → Int → (Int → Int → Option R) → (Oa → Int → Option R) → Option R
def R10_New_p1_b {R : Type} (k : Nat) (n62 : Int) (n63 : Int) (KN : Int → Int → Option R) (KR : Oa → Int → Option R) : Option R :=
bif decide (n62 > 65536) then (KR none 5)
 else (bif decide (n63 > 65536) then (KR none 5)
 else (bif decide ((IntKind.wrap .i64 (n62 * n63)) > 65536) then (KR none 5)
 else (KN n62 n63)))
def R10_New_p1 {R : Type} (k : Nat) (n62 : Int) (n63 : Int) (KN : Int → Int → Option R) (KR : Oa → Int → Option R) : Option R := R10_New_p1_b k n62 n63 KN KR

abbrev R10_New_l2_t (R : Type) : Type := (Int → Int → Int → Option R) → Nat → Int → Int → Int → Int → Int → Option R
def R10_New_l2_b {R : Type} (rec : Int → Int → Int → Int → Int → Option R) (KE0 : Int → Int → Int → Option R) (k : Nat) (n70 : Int) (n71 : Int) (n72 : Int) (n73 : Int) (n74 : Int) : Option R :=
bif decide ((IntKind.wrap .i64 (n73 * n74)) > 1) then (rec n70 n71 (IntKind.wrap .i64 (n72 + (IntKind.wrap .i64 ((IntKind.wrap .i64 (Int.tdiv (IntKind.wrap .i64 (n73 + 1)) 2)) * (IntKind.wrap .i64 (Int.tdiv (IntKind.wrap .i64 (n74 + 1)) 2)))))) (IntKind.wrap .i64 (Int.tdiv (IntKind.wrap .i64 (n73 + 1)) 2)) (IntKind.wrap .i64 (Int.tdiv (IntKind.wrap .i64 (n74 + 1)) 2)))
 else (KE0 n70 n71 n72)
def R10_New_l2 {R : Type} (k : Nat) (KE0 : Int → Int → Int → Option R) : Nat → Int → Int → Int → Int → Int → Option R
  | 0,_,_,_,_,_ => none
  | n + 1,n70,n71,n72,n73,n74 => R10_New_l2_b (R10_New_l2 k KE0 n) KE0 k n70 n71 n72 n73 n74

abbrev R10_New_t (R : Type) : Type := Int → Int → Heap → (Oa → Int → Heap → Option R) → Option R

def R10_New_b {R : Type} (R10_New_p0 : R10_New_p0_t R) (R10_New_p1 : R10_New_p1_t R) (R10_New_l2 : R10_New_l2_t R) (k : Nat) (n52 : Int) (n53 : Int) (H : Heap) (K : Oa → Int → Heap → Option R) : Option R :=
R10_New_p0 n52 n53 (fun n60 n61 =>
R10_New_p1 n60 n61 (fun n68 n69 =>
R10_New_l2 (fun n78 n79 n80 =>
hmk [.int .i64 0,.int .i64 0,.bool false] 24 H n80 n80 fun q81 l82 c83 H84 =>
hal H84 [.bool true,.int .i64 n78,.int .i64 n79,.slice q81 l82 c83,.bool false,.bool false] fun p85 H86 =>
K p85 0 H86) k n68 n69 (IntKind.wrap .i64 (n68 * n69)) n68 n69) (fun p87 n88 =>
K p87 n88 H)) (fun p89 n90 =>
K p89 n90 H)

def R10_New {R : Type} (k : Nat) (n52 : Int) (n53 : Int) (H : Heap) (K : Oa → Int → Heap → Option R) : Option R := R10_New_b (R10_New_p0 k) (R10_New_p1 k) (R10_New_l2 k) k n52 n53 H K

def R10_New_Ct {R : Type} : Tab R := fun _ _ _ _ => none
def R10_New_C (R : Type) (k : Nat) : Tab R := R10_New_Ct
theorem R10_New_S (R : Type) (k : Nat) : CSound Try.prog (R10_New_C R k) := csound_nil
def R10_New_aa0 {R : Type} (f : R10_New_p0_t R) (n : Nat) (vals : List Value) (H : Heap) (K : Xit → Env → Heap → Option R) : Option R :=
  match vals with
  | [.int .i64 n54,.int .i64 n55] => f n54 n55 (fun n1570 n1571 => K .normal [(0,.int .i64 n1570),(1,.int .i64 n1571)] H) (fun p1572 n1573 => K .ret [(4,.pointer p1572),(5,.int .i64 n1573)] H)
  | _ => none
def R10_New_a0 (R : Type) (k n : Nat) (vals : List Value) (H : Heap) (K : Xit → Env → Heap → Option R) : Option R := R10_New_aa0 (R10_New_p0 k) n vals H K
def R10_New_aa1 {R : Type} (f : R10_New_p1_t R) (n : Nat) (vals : List Value) (H : Heap) (K : Xit → Env → Heap → Option R) : Option R :=
  match vals with
  | [.int .i64 n62,.int .i64 n63] => f n62 n63 (fun n1574 n1575 => K .normal [(0,.int .i64 n1574),(1,.int .i64 n1575)] H) (fun p1576 n1577 => K .ret [(4,.pointer p1576),(5,.int .i64 n1577)] H)
  | _ => none
def R10_New_a1 (R : Type) (k n : Nat) (vals : List Value) (H : Heap) (K : Xit → Env → Heap → Option R) : Option R := R10_New_aa1 (R10_New_p1 k) n vals H K
def R10_New_aa2 {R : Type} (f : R10_New_l2_t R) (n : Nat) (vals : List Value) (H : Heap) (K : Xit → Env → Heap → Option R) : Option R :=
  match vals with
  | [.int .i64 n70,.int .i64 n71,.int .i64 n72,.int .i64 n73,.int .i64 n74] => f (fun n1578 n1579 n1580 => K (.exit 0) [(0,.int .i64 n1578),(1,.int .i64 n1579),(6,.int .i64 n1580)] H) n n70 n71 n72 n73 n74
  | _ => none
def R10_New_a2 (R : Type) (k n : Nat) (vals : List Value) (H : Heap) (K : Xit → Env → Heap → Option R) : Option R := R10_New_aa2 (R10_New_l2 k) n vals H K
def R10_New_Jt {R : Type} (k : Nat) (R10_New_p0 : R10_New_p0_t R) (R10_New_p1 : R10_New_p1_t R) (R10_New_l2 : R10_New_l2_t R) : JTab R := tcons 0 (R10_New_aa0 R10_New_p0 k) <| tcons 1 (R10_New_aa1 R10_New_p1 k) <| tcons 2 (R10_New_aa2 R10_New_l2 k) <| fun _ _ _ _ => none
def R10_New_J (R : Type) (k : Nat) : JTab R := R10_New_Jt k (R10_New_p0 k) (R10_New_p1 k) (R10_New_l2 k)
def R10_New_at : AT := (.seq (.reg [0,1] []) (.seq (.opq 0 [0,1] ⟨[0,1],[],[4,5]⟩ (.seq (.reg [0,1,14] []) (.cond (.seq (.reg [4,5] []) .leaf) .leaf))) (.seq (.opq 1 [0,1] ⟨[0,1],[],[4,5]⟩ (.seq (.reg [0,1,26] []) (.cond (.seq (.reg [4,5] []) .leaf) .leaf))) (.seq (.reg [0,1,6] []) (.seq (.reg [0,1,6,7,8] []) (.seq (.node (.opq 2 [0,1,6,7,8] ⟨[],[(0,[0,1,6])],[]⟩ (.node (.seq (.seq (.reg [0,1,6,7,8,35] []) (.cond .leaf .leaf)) (.node (.seq (.reg [0,1,6,7,8] []) (.reg [0,1,6,7,8] []))))))) (.seq (.reg [4,5] []) .leaf)))))))
def R10_New_i2 : IC := (.seq (.seq (.reg [⟨some 32,.mov (.t 7),none⟩,
⟨some 33,.mov (.t 8),none⟩,
⟨some 34,.bin .mul .i64 (.t 32) (.t 33),none⟩,
⟨some 35,.cmp .gtr (.t 34) (.c (Go.Value.int Go.IntKind.i64 1)),none⟩] [0,1,6,7,8,35]) (.cond (.t 35) .skip (.exit 0))) (.block 1 (.seq (.reg [⟨some 36,.mov (.t 7),none⟩,
⟨some 37,.bin .add .i64 (.t 36) (.c (Go.Value.int Go.IntKind.i64 1)),none⟩,
⟨some 38,.bin .quo .i64 (.t 37) (.c (Go.Value.int Go.IntKind.i64 2)),none⟩,
⟨some 39,.mov (.t 8),none⟩,
⟨some 40,.bin .add .i64 (.t 39) (.c (Go.Value.int Go.IntKind.i64 1)),none⟩,
⟨some 41,.bin .quo .i64 (.t 40) (.c (Go.Value.int Go.IntKind.i64 2)),none⟩,
⟨some 7,.mov (.t 38),none⟩,
⟨some 8,.mov (.t 41),none⟩] [0,1,6,7,8]) (.reg [⟨some 42,.mov (.t 6),none⟩,
⟨some 43,.mov (.t 7),none⟩,
⟨some 44,.mov (.t 8),none⟩,
⟨some 45,.bin .mul .i64 (.t 43) (.t 44),none⟩,
⟨some 46,.bin .add .i64 (.t 42) (.t 45),none⟩,
⟨some 6,.mov (.t 46),none⟩] [0,1,6,7,8]))))
def R10_New_i1 : IC := (.seq (.reg [⟨some 15,.mov (.t 0),none⟩,
⟨some 16,.cmp .gtr (.t 15) (.c (Go.Value.int Go.IntKind.i64 65536)),none⟩,
⟨some 17,.mov (.t 16),none⟩,
⟨some 18,.mov (.t 1),some (17,false)⟩,
⟨some 19,.cmp .gtr (.t 18) (.c (Go.Value.int Go.IntKind.i64 65536)),some (17,false)⟩,
⟨some 20,.pick (.t 17) (.c (Go.Value.bool true)) (.t 19),none⟩,
⟨some 21,.mov (.t 20),none⟩,
⟨some 22,.mov (.t 0),some (21,false)⟩,
⟨some 23,.mov (.t 1),some (21,false)⟩,
⟨some 24,.bin .mul .i64 (.t 22) (.t 23),some (21,false)⟩,
⟨some 25,.cmp .gtr (.t 24) (.c (Go.Value.int Go.IntKind.i64 65536)),some (21,false)⟩,
⟨some 26,.pick (.t 21) (.c (Go.Value.bool true)) (.t 25),none⟩] [0,1,26]) (.cond (.t 26) (.seq (.reg [⟨some 4,.mov (.c (Go.Value.pointer none)),none⟩,
⟨some 5,.mov (.c (Go.Value.int Go.IntKind.i64 5)),none⟩] [4,5]) .ret) .skip))
def R10_New_i0 : IC := (.seq (.reg [⟨some 9,.mov (.t 0),none⟩,
⟨some 10,.cmp .lss (.t 9) (.c (Go.Value.int Go.IntKind.i64 1)),none⟩,
⟨some 11,.mov (.t 10),none⟩,
⟨some 12,.mov (.t 1),some (11,false)⟩,
⟨some 13,.cmp .lss (.t 12) (.c (Go.Value.int Go.IntKind.i64 1)),some (11,false)⟩,
⟨some 14,.pick (.t 11) (.c (Go.Value.bool true)) (.t 13),none⟩] [0,1,14]) (.cond (.t 14) (.seq (.reg [⟨some 4,.mov (.c (Go.Value.pointer none)),none⟩,
⟨some 5,.mov (.c (Go.Value.int Go.IntKind.i64 2)),none⟩] [4,5]) .ret) .skip))
def R10_New_f : IFn := ⟨53,[.t 4,.t 5],(.seq (.reg [⟨some 4,.mov (.c (Go.Value.pointer none)),none⟩,
⟨some 5,.mov (.c (Go.Value.int Go.IntKind.i64 0)),none⟩] [0,1]) (.seq (.opq 0 [0,1] R10_New_i0) (.seq (.opq 1 [0,1] R10_New_i1) (.seq (.reg [⟨some 27,.mov (.t 0),none⟩,
⟨some 28,.mov (.t 1),none⟩,
⟨some 29,.bin .mul .i64 (.t 27) (.t 28),none⟩,
⟨some 6,.mov (.t 29),none⟩] [0,1,6]) (.seq (.reg [⟨some 30,.mov (.t 0),none⟩,
⟨some 31,.mov (.t 1),none⟩,
⟨some 7,.mov (.t 30),none⟩,
⟨some 8,.mov (.t 31),none⟩] [0,1,6,7,8]) (.seq (.block 0 (.opq 2 [0,1,6,7,8] (.loop R10_New_i2))) (.seq (.reg [⟨some 47,.mov (.t 0),none⟩,
⟨some 48,.mov (.t 1),none⟩,
⟨some 49,.mov (.t 6),none⟩,
⟨some 50,.mks [.int .i64 0,.int .i64 0,.bool false] 24 (.t 49) (.t 49),none⟩,
⟨some 51,.bld [.bool false,.int .i64 0,.int .i64 0,.slice none 0 0,.bool false,.bool false] [(0,1,(.c (Go.Value.bool true))),(1,1,(.t 47)),(2,1,(.t 48)),(3,1,(.t 50))],none⟩,
⟨some 52,.box (.t 51),none⟩,
⟨some 4,.mov (.t 52),none⟩,
⟨some 5,.mov (.c (Go.Value.int Go.IntKind.i64 0)),none⟩] [4,5]) .ret)))))))⟩
theorem R10_New_e2 {R : Type} (R10_New_p0 : R10_New_p0_t R) (R10_New_p1 : R10_New_p1_t R) (R10_New_l2 : R10_New_l2_t R) (k n : Nat) (n70 : Int) (n71 : Int) (n72 : Int) (n73 : Int) (n74 : Int) (H : Heap) (K : Xit → Env → Heap → Option R) : evJ (R10_New_Ct) (R10_New_Jt k R10_New_p0 R10_New_p1 R10_New_l2) R10_New_i2 (List.zip [0,1,6,7,8] [.int .i64 n70,.int .i64 n71,.int .i64 n72,.int .i64 n73,.int .i64 n74]) H (fun x e' H' => match x with | .normal => R10_New_aa2 R10_New_l2 n ((clean e' [0,1,6,7,8]).map (·.2)) H' K | x => K x (clean e' ((⟨[],[(0,[0,1,6])],[]⟩ : Out).of x)) H') = R10_New_l2_b (R10_New_l2 (fun n1578 n1579 n1580 => K (.exit 0) [(0,.int .i64 n1578),(1,.int .i64 n1579),(6,.int .i64 n1580)] H) n) (fun n1578 n1579 n1580 => K (.exit 0) [(0,.int .i64 n1578),(1,.int .i64 n1579),(6,.int .i64 n1580)] H) k n70 n71 n72 n73 n74 := by kernel_rfl
theorem R10_New_j2 {R : Type} (k : Nat) : JS Try.prog 53 (R10_New_a2 R k k) [0,1,6,7,8] ⟨[],[(0,[0,1,6])],[]⟩ (.loop (sel [1,1,1,1,1,0,0,0] (Try.f12.body.getD .skip))) :=
  loop_ok (nt := 53) (c := (sel [1,1,1,1,1,0,0,0] (Try.f12.body.getD .skip))) (C := R10_New_C R k) (an := An) (t := (.seq (.seq (.reg [0,1,6,7,8,35] []) (.cond .leaf .leaf)) (.node (.seq (.reg [0,1,6,7,8] []) (.reg [0,1,6,7,8] []))))) (ic := R10_New_i2) (R10_New_S R k) (R10_New_J R k) (by kernel_rfl) (And.intro (And.intro True.intro (And.intro True.intro True.intro)) (And.intro True.intro True.intro)) (R10_New_a2 R k) (fun vals H K => by unfold R10_New_a2 R10_New_aa2; split <;> rfl)
    (fun n vals H K r h => by
      unfold R10_New_a2 R10_New_aa2 at h
      split at h <;> first | (cases h; done) | exact Eq.trans (R10_New_e2 (R10_New_p0 k) (R10_New_p1 k) (R10_New_l2 k) k n _ _ _ _ _ H K) h) k
theorem R10_New_e1 {R : Type} (R10_New_p0 : R10_New_p0_t R) (R10_New_p1 : R10_New_p1_t R) (R10_New_l2 : R10_New_l2_t R) (k : Nat) (n62 : Int) (n63 : Int) (H : Heap) (K : Xit → Env → Heap → Option R) : evJ (R10_New_Ct) (R10_New_Jt k R10_New_p0 R10_New_p1 R10_New_l2) R10_New_i1 (List.zip [0,1] [.int .i64 n62,.int .i64 n63]) H (fun x e' H' => K x (clean e' ((⟨[0,1],[],[4,5]⟩ : Out).of x)) H') = R10_New_p1_b k n62 n63 (fun n1574 n1575 => K .normal [(0,.int .i64 n1574),(1,.int .i64 n1575)] H) (fun p1576 n1577 => K .ret [(4,.pointer p1576),(5,.int .i64 n1577)] H) := by kernel_rfl
theorem R10_New_j1 {R : Type} (k : Nat) : JS Try.prog 53 (R10_New_a1 R k k) [0,1] ⟨[0,1],[],[4,5]⟩ (sel [1,1,0] (Try.f12.body.getD .skip)) :=
  piece_ok (nt := 53) (c := (sel [1,1,0] (Try.f12.body.getD .skip))) (C := R10_New_C R k) (an := An) (t := (.seq (.reg [0,1,26] []) (.cond (.seq (.reg [4,5] []) .leaf) .leaf))) (ic := R10_New_i1) (R10_New_S R k) (R10_New_J R k) (by kernel_rfl) (And.intro True.intro (And.intro (And.intro True.intro True.intro) True.intro)) (R10_New_a1 R k k)
    (fun vals H K r h => by
      unfold R10_New_a1 R10_New_aa1 at h
      split at h <;> first | (cases h; done) | exact Eq.trans (R10_New_e1 (R10_New_p0 k) (R10_New_p1 k) (R10_New_l2 k) k _ _ H K) h)
theorem R10_New_e0 {R : Type} (R10_New_p0 : R10_New_p0_t R) (R10_New_p1 : R10_New_p1_t R) (R10_New_l2 : R10_New_l2_t R) (k : Nat) (n54 : Int) (n55 : Int) (H : Heap) (K : Xit → Env → Heap → Option R) : evJ (R10_New_Ct) (R10_New_Jt k R10_New_p0 R10_New_p1 R10_New_l2) R10_New_i0 (List.zip [0,1] [.int .i64 n54,.int .i64 n55]) H (fun x e' H' => K x (clean e' ((⟨[0,1],[],[4,5]⟩ : Out).of x)) H') = R10_New_p0_b k n54 n55 (fun n1570 n1571 => K .normal [(0,.int .i64 n1570),(1,.int .i64 n1571)] H) (fun p1572 n1573 => K .ret [(4,.pointer p1572),(5,.int .i64 n1573)] H) := by kernel_rfl
theorem R10_New_j0 {R : Type} (k : Nat) : JS Try.prog 53 (R10_New_a0 R k k) [0,1] ⟨[0,1],[],[4,5]⟩ (sel [1,0] (Try.f12.body.getD .skip)) :=
  piece_ok (nt := 53) (c := (sel [1,0] (Try.f12.body.getD .skip))) (C := R10_New_C R k) (an := An) (t := (.seq (.reg [0,1,14] []) (.cond (.seq (.reg [4,5] []) .leaf) .leaf))) (ic := R10_New_i0) (R10_New_S R k) (R10_New_J R k) (by kernel_rfl) (And.intro True.intro (And.intro (And.intro True.intro True.intro) True.intro)) (R10_New_a0 R k k)
    (fun vals H K r h => by
      unfold R10_New_a0 R10_New_aa0 at h
      split at h <;> first | (cases h; done) | exact Eq.trans (R10_New_e0 (R10_New_p0 k) (R10_New_p1 k) (R10_New_l2 k) k _ _ H K) h)
def R10_New_ca {R : Type} (f : R10_New_t R) (args : List Value) (H : Heap) (K : Value → Heap → Option R) : Option R :=
  match args with
  | [.int .i64 n52,.int .i64 n53] => f n52 n53 H (fun p1581 n1582 H => K (.tuple ⟨[.pointer p1581,.int .i64 n1582]⟩) H)
  | _ => none
def R10_New_c (R : Type) (k : Nat) (args : List Value) (H : Heap) (K : Value → Heap → Option R) : Option R := R10_New_ca (R10_New k) args H K
theorem R10_New_e {R : Type} (R10_New_p0 : R10_New_p0_t R) (R10_New_p1 : R10_New_p1_t R) (R10_New_l2 : R10_New_l2_t R) (k : Nat) (n52 : Int) (n53 : Int) (H : Heap) (K : Value → Heap → Option R) : evF (R10_New_Ct) (R10_New_Jt k R10_New_p0 R10_New_p1 R10_New_l2) R10_New_f [.int .i64 n52,.int .i64 n53] H K = R10_New_b R10_New_p0 R10_New_p1 R10_New_l2 k n52 n53 H (fun p1581 n1582 H => K (.tuple ⟨[.pointer p1581,.int .i64 n1582]⟩) H) := by kernel_rfl
theorem R10_New_cs (R : Type) (k : Nat) : ∀ args H K r,R10_New_c R k args H K = some r → ∃ v H',Tri Try.prog 12 args H v H' ∧ K v H' = some r := by
  intro args H K r h
  unfold R10_New_c R10_New_ca at h
  split at h
  · exact evF_ok (C := R10_New_C R k) (an := An) (t := R10_New_at) (fn := Try.f12) (c := (Try.f12.body.getD .skip)) (ifn := R10_New_f) (R10_New_S R k) (R10_New_J R k) Try.func12 (by kernel_rfl) (by kernel_rfl) (And.intro True.intro (And.intro (R10_New_j0 k) (And.intro (R10_New_j1 k) (And.intro True.intro (And.intro True.intro (And.intro (R10_New_j2 k) (And.intro True.intro True.intro))))))) rfl (Eq.trans (R10_New_e (R10_New_p0 k) (R10_New_p1 k) (R10_New_l2 k) k _ _ H K) h)
  · cases h
end Go.Proofs.Ytblkejnciinaeaa.Sh
