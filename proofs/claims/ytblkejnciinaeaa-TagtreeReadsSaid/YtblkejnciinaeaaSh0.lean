/- Lean functions that stand for Go's,over an explicit heap,and the proofs that they do (written by this claim's program shallow.py). -/
import Derived.Test.YtblkejnciinaeaaProg
import Derived.Test.YtblkejnciinaeaaFwL
set_option maxRecDepth 100000
set_option linter.unusedVariables false
set_option linter.unusedSimpArgs false
namespace Go.Proofs.Ytblkejnciinaeaa.Sh
open Go.Proofs.Ytblkejnciinaeaa.FW
abbrev Oa := Option Addr
def An : Ann := ⟨[],[3,4,5,7,8,9,10,13,14,15,16,23,24,25,26,27,34,37,38,39,41,51,58,64,65,66,67,68,69,70,71,72,73,74,75,76,77,78,79],[11,12,17,18,28,29,30,31,35,40,49],[6,19,20,21,22,32,33,36,42,43,44,45,46,47,48,50,52,53,54,55,56,57,59,60,61,62,63]⟩

/-! ### tagtree_valid: function 37 -/
abbrev tagtree_valid_p0_t (R : Type) : Type := Int → Int → (Int → Int → Option R) → (Int → Option R) → Option R
def tagtree_valid_p0_b {R : Type} (k : Nat) (n7 : Int) (n8 : Int) (KN : Int → Int → Option R) (KR : Int → Option R) : Option R :=
bif decide (n7 < 1) then (KR 2)
 else (bif decide (n8 < 1) then (KR 2)
 else (KN n7 n8))
def tagtree_valid_p0 {R : Type} (k : Nat) (n7 : Int) (n8 : Int) (KN : Int → Int → Option R) (KR : Int → Option R) : Option R := tagtree_valid_p0_b k n7 n8 KN KR

abbrev tagtree_valid_t (R : Type) : Type := Int → Int → (Int → Option R) → Option R

def tagtree_valid_b {R : Type} (tagtree_valid_p0 : tagtree_valid_p0_t R) (k : Nat) (n5 : Int) (n6 : Int) (K : Int → Option R) : Option R :=
tagtree_valid_p0 n5 n6 (fun n12 n13 =>
bif decide (n12 > 65536) then (K 5)
 else (bif decide (n13 > 65536) then (K 5)
 else (bif decide ((IntKind.wrap .i64 (n12 * n13)) > 65536) then (K 5)
 else (K 0)))) (fun n14 =>
K n14)

def tagtree_valid {R : Type} (k : Nat) (n5 : Int) (n6 : Int) (K : Int → Option R) : Option R := tagtree_valid_b (tagtree_valid_p0 k) k n5 n6 K

def tagtree_valid_Ct {R : Type} : Tab R := fun _ _ _ _ => none
def tagtree_valid_C (R : Type) (k : Nat) : Tab R := tagtree_valid_Ct
theorem tagtree_valid_S (R : Type) (k : Nat) : CSound Try.prog (tagtree_valid_C R k) := csound_nil
def tagtree_valid_aa0 {R : Type} (f : tagtree_valid_p0_t R) (n : Nat) (vals : List Value) (H : Heap) (K : Xit → Env → Heap → Option R) : Option R :=
  match vals with
  | [.int .i64 n7,.int .i64 n8] => f n7 n8 (fun n1331 n1332 => K .normal [(0,.int .i64 n1331),(1,.int .i64 n1332)] H) (fun n1333 => K .ret [(4,.int .i64 n1333)] H)
  | _ => none
def tagtree_valid_a0 (R : Type) (k n : Nat) (vals : List Value) (H : Heap) (K : Xit → Env → Heap → Option R) : Option R := tagtree_valid_aa0 (tagtree_valid_p0 k) n vals H K
def tagtree_valid_Jt {R : Type} (k : Nat) (tagtree_valid_p0 : tagtree_valid_p0_t R) : JTab R := tcons 0 (tagtree_valid_aa0 tagtree_valid_p0 k) <| fun _ _ _ _ => none
def tagtree_valid_J (R : Type) (k : Nat) : JTab R := tagtree_valid_Jt k (tagtree_valid_p0 k)
def tagtree_valid_at : AT := (.seq (.reg [0,1] []) (.seq (.opq 0 [0,1] ⟨[0,1],[],[4]⟩ (.seq (.reg [0,1,10] []) (.cond (.seq (.reg [4] []) .leaf) .leaf))) (.seq (.seq (.reg [22] []) (.cond (.seq (.reg [4] []) .leaf) .leaf)) (.seq (.reg [4] []) .leaf))))
def tagtree_valid_i0 : IC := (.seq (.reg [⟨some 5,.mov (.t 0),none⟩,
⟨some 6,.cmp .lss (.t 5) (.c (Go.Value.int Go.IntKind.i64 1)),none⟩,
⟨some 7,.mov (.t 6),none⟩,
⟨some 8,.mov (.t 1),some (7,false)⟩,
⟨some 9,.cmp .lss (.t 8) (.c (Go.Value.int Go.IntKind.i64 1)),some (7,false)⟩,
⟨some 10,.pick (.t 7) (.c (Go.Value.bool true)) (.t 9),none⟩] [0,1,10]) (.cond (.t 10) (.seq (.reg [⟨some 4,.mov (.c (Go.Value.int Go.IntKind.i64 2)),none⟩] [4]) .ret) .skip))
def tagtree_valid_f : IFn := ⟨23,[.t 4],(.seq (.reg [⟨some 4,.mov (.c (Go.Value.int Go.IntKind.i64 0)),none⟩] [0,1]) (.seq (.opq 0 [0,1] tagtree_valid_i0) (.seq (.seq (.reg [⟨some 11,.mov (.t 0),none⟩,
⟨some 12,.cmp .gtr (.t 11) (.c (Go.Value.int Go.IntKind.i64 65536)),none⟩,
⟨some 13,.mov (.t 12),none⟩,
⟨some 14,.mov (.t 1),some (13,false)⟩,
⟨some 15,.cmp .gtr (.t 14) (.c (Go.Value.int Go.IntKind.i64 65536)),some (13,false)⟩,
⟨some 16,.pick (.t 13) (.c (Go.Value.bool true)) (.t 15),none⟩,
⟨some 17,.mov (.t 16),none⟩,
⟨some 18,.mov (.t 0),some (17,false)⟩,
⟨some 19,.mov (.t 1),some (17,false)⟩,
⟨some 20,.bin .mul .i64 (.t 18) (.t 19),some (17,false)⟩,
⟨some 21,.cmp .gtr (.t 20) (.c (Go.Value.int Go.IntKind.i64 65536)),some (17,false)⟩,
⟨some 22,.pick (.t 17) (.c (Go.Value.bool true)) (.t 21),none⟩] [22]) (.cond (.t 22) (.seq (.reg [⟨some 4,.mov (.c (Go.Value.int Go.IntKind.i64 5)),none⟩] [4]) .ret) .skip)) (.seq (.reg [⟨some 4,.mov (.c (Go.Value.int Go.IntKind.i64 0)),none⟩] [4]) .ret))))⟩
theorem tagtree_valid_e0 {R : Type} (tagtree_valid_p0 : tagtree_valid_p0_t R) (k : Nat) (n7 : Int) (n8 : Int) (H : Heap) (K : Xit → Env → Heap → Option R) : evJ (tagtree_valid_Ct) (tagtree_valid_Jt k tagtree_valid_p0) tagtree_valid_i0 (List.zip [0,1] [.int .i64 n7,.int .i64 n8]) H (fun x e' H' => K x (clean e' ((⟨[0,1],[],[4]⟩ : Out).of x)) H') = tagtree_valid_p0_b k n7 n8 (fun n1331 n1332 => K .normal [(0,.int .i64 n1331),(1,.int .i64 n1332)] H) (fun n1333 => K .ret [(4,.int .i64 n1333)] H) := by kernel_rfl
theorem tagtree_valid_j0 {R : Type} (k : Nat) : JS Try.prog 23 (tagtree_valid_a0 R k k) [0,1] ⟨[0,1],[],[4]⟩ (sel [1,0] (Try.f37.body.getD .skip)) :=
  piece_ok (nt := 23) (c := (sel [1,0] (Try.f37.body.getD .skip))) (C := tagtree_valid_C R k) (an := An) (t := (.seq (.reg [0,1,10] []) (.cond (.seq (.reg [4] []) .leaf) .leaf))) (ic := tagtree_valid_i0) (tagtree_valid_S R k) (tagtree_valid_J R k) (by kernel_rfl) (And.intro True.intro (And.intro (And.intro True.intro True.intro) True.intro)) (tagtree_valid_a0 R k k)
    (fun vals H K r h => by
      unfold tagtree_valid_a0 tagtree_valid_aa0 at h
      split at h <;> first | (cases h; done) | exact Eq.trans (tagtree_valid_e0 (tagtree_valid_p0 k) k _ _ H K) h)
def tagtree_valid_ca {R : Type} (f : tagtree_valid_t R) (args : List Value) (H : Heap) (K : Value → Heap → Option R) : Option R :=
  match args with
  | [.int .i64 n5,.int .i64 n6] => f n5 n6 (fun n1334 => K (.int .i64 n1334) H)
  | _ => none
def tagtree_valid_c (R : Type) (k : Nat) (args : List Value) (H : Heap) (K : Value → Heap → Option R) : Option R := tagtree_valid_ca (tagtree_valid k) args H K
theorem tagtree_valid_e {R : Type} (tagtree_valid_p0 : tagtree_valid_p0_t R) (k : Nat) (n5 : Int) (n6 : Int) (H : Heap) (K : Value → Heap → Option R) : evF (tagtree_valid_Ct) (tagtree_valid_Jt k tagtree_valid_p0) tagtree_valid_f [.int .i64 n5,.int .i64 n6] H K = tagtree_valid_b tagtree_valid_p0 k n5 n6 (fun n1334 => K (.int .i64 n1334) H) := by kernel_rfl
theorem tagtree_valid_cs (R : Type) (k : Nat) : ∀ args H K r,tagtree_valid_c R k args H K = some r → ∃ v H',Tri Try.prog 37 args H v H' ∧ K v H' = some r := by
  intro args H K r h
  unfold tagtree_valid_c tagtree_valid_ca at h
  split at h
  · exact evF_ok (C := tagtree_valid_C R k) (an := An) (t := tagtree_valid_at) (fn := Try.f37) (c := (Try.f37.body.getD .skip)) (ifn := tagtree_valid_f) (tagtree_valid_S R k) (tagtree_valid_J R k) Try.func37 (by kernel_rfl) (by kernel_rfl) (And.intro True.intro (And.intro (tagtree_valid_j0 k) (And.intro (And.intro True.intro (And.intro (And.intro True.intro True.intro) True.intro)) (And.intro True.intro True.intro)))) rfl (Eq.trans (tagtree_valid_e (tagtree_valid_p0 k) k _ _ H K) h)
  · cases h
/-! ### tagtree_New: function 11 -/
abbrev tagtree_New_p1_t (R : Type) : Type := Int → Int → Oa → (Int → Int → Oa → Option R) → (Oa → Int → Option R) → Option R
def tagtree_New_p1_b {R : Type} (k : Nat) (n29 : Int) (n30 : Int) (p31 : Oa) (KN : Int → Int → Oa → Option R) (KR : Oa → Int → Option R) : Option R :=
bif (n29 == 1) then (bif (n30 == 1) then (KR p31 0)
 else (KN n29 n30 p31))
 else (KN n29 n30 p31)
def tagtree_New_p1 {R : Type} (k : Nat) (n29 : Int) (n30 : Int) (p31 : Oa) (KN : Int → Int → Oa → Option R) (KR : Oa → Int → Option R) : Option R := tagtree_New_p1_b k n29 n30 p31 KN KR

abbrev tagtree_New_l0_t (R : Type) : Type := (Oa → Int → Heap → Option R) → Nat → Int → Int → Oa → Heap → Option R
def tagtree_New_l0_b {R : Type} (tagtree_New_p1 : tagtree_New_p1_t R) (rec : Int → Int → Oa → Heap → Option R) (KR : Oa → Int → Heap → Option R) (k : Nat) (n8 : Int) (n9 : Int) (p10 : Oa) (H : Heap) : Option R :=
hnil p10 fun p11 =>
hfad 0 p11 fun p12 =>
ldL H p12 fun q13 l14 c15 =>
hmk [.int .i64 0,.int .i64 0,.bool false] 24 H (IntKind.wrap .i64 (n8 * n9)) (IntKind.wrap .i64 (n8 * n9)) fun q16 l17 c18 H19 =>
hal H19 [.int .i64 n8,.int .i64 n9,.slice q16 l17 c18] fun p20 H21 =>
happS 3 40 H21 q13 l14 c15 p20 1 fun q22 l23 c24 H25 =>
hnil p10 fun p26 =>
hfad 0 p26 fun p27 =>
hst1 H25 p27 (.slice q22 l23 c24) fun H28 =>
tagtree_New_p1 n8 n9 p10 (fun n37 n38 p39 =>
rec (IntKind.wrap .i64 (Int.tdiv (IntKind.wrap .i64 (n37 + 1)) 2)) (IntKind.wrap .i64 (Int.tdiv (IntKind.wrap .i64 (n38 + 1)) 2)) p39 H28) (fun p40 n41 =>
KR p40 n41 H28)
def tagtree_New_l0 {R : Type} (k : Nat) (KR : Oa → Int → Heap → Option R) : Nat → Int → Int → Oa → Heap → Option R
  | 0,_,_,_,_ => none
  | n + 1,n8,n9,p10,H => tagtree_New_l0_b (tagtree_New_p1 k) (tagtree_New_l0 k KR n) KR k n8 n9 p10 H

abbrev tagtree_New_t (R : Type) : Type := Int → Int → Heap → (Oa → Int → Heap → Option R) → Option R

def tagtree_New_b {R : Type} (tagtree_valid : tagtree_valid_t R) (tagtree_New_l0 : tagtree_New_l0_t R) (k : Nat) (n3 : Int) (n4 : Int) (H : Heap) (K : Oa → Int → Heap → Option R) : Option R :=
tagtree_valid n3 n4 fun n5 =>
bif (n5 != 0) then (K none n5 H)
 else (hal H [.slice none 0 0,.bool false,.bool false] fun p6 H7 =>
tagtree_New_l0 (fun p44 n45 H46 =>
K p44 n45 H46) k n3 n4 p6 H7)

def tagtree_New {R : Type} (k : Nat) (n3 : Int) (n4 : Int) (H : Heap) (K : Oa → Int → Heap → Option R) : Option R := tagtree_New_b (tagtree_valid k) (tagtree_New_l0 k) k n3 n4 H K

def tagtree_New_Ct {R : Type} (tagtree_valid : tagtree_valid_t R) : Tab R := tcons 37 (tagtree_valid_ca tagtree_valid) <| fun _ _ _ _ => none
def tagtree_New_C (R : Type) (k : Nat) : Tab R := tagtree_New_Ct (tagtree_valid k)
theorem tagtree_New_S (R : Type) (k : Nat) : CSound Try.prog (tagtree_New_C R k) := csound_cons (tagtree_valid_cs R k) <| csound_nil
def tagtree_New_aa0 {R : Type} (f : tagtree_New_l0_t R) (n : Nat) (vals : List Value) (H : Heap) (K : Xit → Env → Heap → Option R) : Option R :=
  match vals with
  | [.int .i64 n8,.int .i64 n9,.pointer p10] => f (fun p1335 n1336 H => K .ret [(4,.pointer p1335),(5,.int .i64 n1336)] H) n n8 n9 p10 H
  | _ => none
def tagtree_New_a0 (R : Type) (k n : Nat) (vals : List Value) (H : Heap) (K : Xit → Env → Heap → Option R) : Option R := tagtree_New_aa0 (tagtree_New_l0 k) n vals H K
def tagtree_New_aa1 {R : Type} (f : tagtree_New_p1_t R) (n : Nat) (vals : List Value) (H : Heap) (K : Xit → Env → Heap → Option R) : Option R :=
  match vals with
  | [.int .i64 n29,.int .i64 n30,.pointer p31] => f n29 n30 p31 (fun n1337 n1338 p1339 => K .normal [(0,.int .i64 n1337),(1,.int .i64 n1338),(7,.pointer p1339)] H) (fun p1340 n1341 => K .ret [(4,.pointer p1340),(5,.int .i64 n1341)] H)
  | _ => none
def tagtree_New_a1 (R : Type) (k n : Nat) (vals : List Value) (H : Heap) (K : Xit → Env → Heap → Option R) : Option R := tagtree_New_aa1 (tagtree_New_p1 k) n vals H K
def tagtree_New_Jt {R : Type} (k : Nat) (tagtree_New_l0 : tagtree_New_l0_t R) (tagtree_New_p1 : tagtree_New_p1_t R) : JTab R := tcons 0 (tagtree_New_aa0 tagtree_New_l0 k) <| tcons 1 (tagtree_New_aa1 tagtree_New_p1 k) <| fun _ _ _ _ => none
def tagtree_New_J (R : Type) (k : Nat) : JTab R := tagtree_New_Jt k (tagtree_New_l0 k) (tagtree_New_p1 k)
def tagtree_New_at : AT := (.seq (.reg [0,1] []) (.seq (.seq (.reg [0,1,6] []) (.seq (.reg [0,1,6,12] []) (.cond (.seq (.reg [4,5] []) .leaf) .leaf))) (.seq (.reg [0,1,7] []) (.node (.opq 0 [0,1,7] ⟨[],[],[4,5]⟩ (.node (.node (.seq (.reg [0,1,7] [[],[],[1],[1,2],[1,2,3],[],[],[],[],[7,8],[7,8,9],[5,6,7,8,9,10],[5,6,7,8,9,10,11],[1,2,3,4,5,6,7,8,9,10,11,12],[0,1,2,3,4,5,6,7,8,9,10,11,12,13],[0,1,2,3,4,5,6,7,8,9,10,11,12,13,14],[0,1,2,3,4,5,6,7,8,9,10,11,12,13,14,15]]) (.seq (.opq 1 [0,1,7] ⟨[0,1,7],[],[4,5]⟩ (.seq (.reg [0,1,7,37] []) (.cond (.seq (.reg [4,5] []) .leaf) .leaf))) (.reg [0,1,7] []))))))))))
def tagtree_New_i1 : IC := (.seq (.reg [⟨some 32,.mov (.t 0),none⟩,
⟨some 33,.cmp .eql (.t 32) (.c (Go.Value.int Go.IntKind.i64 1)),none⟩,
⟨some 34,.mov (.t 33),none⟩,
⟨some 35,.mov (.t 1),some (34,true)⟩,
⟨some 36,.cmp .eql (.t 35) (.c (Go.Value.int Go.IntKind.i64 1)),some (34,true)⟩,
⟨some 37,.pick (.t 34) (.t 36) (.c (Go.Value.bool false)),none⟩] [0,1,7,37]) (.cond (.t 37) (.seq (.reg [⟨some 38,.mov (.t 7),none⟩,
⟨some 4,.mov (.t 38),none⟩,
⟨some 5,.mov (.c (Go.Value.int Go.IntKind.i64 0)),none⟩] [4,5]) .ret) .skip))
def tagtree_New_i0 : IC := (.block 1 (.seq (.reg [⟨some 16,.mov (.t 7),none⟩,
⟨some 17,.mov (.t 7),none⟩,
⟨some 18,.nilc (.t 17),none⟩,
⟨some 19,.fad 0 (.t 18),none⟩,
⟨some 20,.ld (.sc .slc) (.t 19),none⟩,
⟨some 21,.mov (.t 0),none⟩,
⟨some 22,.mov (.t 1),none⟩,
⟨some 23,.mov (.t 0),none⟩,
⟨some 24,.mov (.t 1),none⟩,
⟨some 25,.bin .mul .i64 (.t 23) (.t 24),none⟩,
⟨some 26,.mks [.int .i64 0,.int .i64 0,.bool false] 24 (.t 25) (.t 25),none⟩,
⟨some 27,.bld [.int .i64 0,.int .i64 0,.slice none 0 0] [(0,1,(.t 21)),(1,1,(.t 22)),(2,1,(.t 26))],none⟩,
⟨some 28,.bls 1 [.int .i64 0,.int .i64 0,.slice none 0 0] [(0,3,(.t 27))],none⟩,
⟨some 29,.app [.int .i64 0,.int .i64 0,.slice none 0 0] 40 (.t 20) (.t 28),none⟩,
⟨some 30,.nilc (.t 16),none⟩,
⟨some 31,.fad 0 (.t 30),none⟩,
⟨none,.st 1 (.t 31) (.t 29),none⟩] [0,1,7]) (.seq (.opq 1 [0,1,7] tagtree_New_i1) (.reg [⟨some 39,.mov (.t 0),none⟩,
⟨some 40,.bin .add .i64 (.t 39) (.c (Go.Value.int Go.IntKind.i64 1)),none⟩,
⟨some 41,.bin .quo .i64 (.t 40) (.c (Go.Value.int Go.IntKind.i64 2)),none⟩,
⟨some 42,.mov (.t 1),none⟩,
⟨some 43,.bin .add .i64 (.t 42) (.c (Go.Value.int Go.IntKind.i64 1)),none⟩,
⟨some 44,.bin .quo .i64 (.t 43) (.c (Go.Value.int Go.IntKind.i64 2)),none⟩,
⟨some 0,.mov (.t 41),none⟩,
⟨some 1,.mov (.t 44),none⟩] [0,1,7]))))
def tagtree_New_f : IFn := ⟨45,[.t 4,.t 5],(.seq (.reg [⟨some 4,.mov (.c (Go.Value.pointer none)),none⟩,
⟨some 5,.mov (.c (Go.Value.int Go.IntKind.i64 0)),none⟩] [0,1]) (.seq (.seq (.reg [⟨some 8,.mov (.t 0),none⟩,
⟨some 9,.mov (.t 1),none⟩,
⟨some 10,.call 37 [(.t 8),(.t 9)] (.one (.sc (.int .i64))),none⟩,
⟨some 6,.mov (.t 10),none⟩] [0,1,6]) (.seq (.reg [⟨some 11,.mov (.t 6),none⟩,
⟨some 12,.cmp .neq (.t 11) (.c (Go.Value.int Go.IntKind.i64 0)),none⟩] [0,1,6,12]) (.cond (.t 12) (.seq (.reg [⟨some 13,.mov (.t 6),none⟩,
⟨some 4,.mov (.c (Go.Value.pointer none)),none⟩,
⟨some 5,.mov (.t 13),none⟩] [4,5]) .ret) .skip))) (.seq (.reg [⟨some 14,.bld [.slice none 0 0,.bool false,.bool false] [],none⟩,
⟨some 15,.box (.t 14),none⟩,
⟨some 7,.mov (.t 15),none⟩] [0,1,7]) (.block 0 (.opq 0 [0,1,7] (.loop tagtree_New_i0))))))⟩
theorem tagtree_New_e1 {R : Type} (tagtree_valid : tagtree_valid_t R) (tagtree_New_l0 : tagtree_New_l0_t R) (tagtree_New_p1 : tagtree_New_p1_t R) (k : Nat) (n29 : Int) (n30 : Int) (p31 : Oa) (H : Heap) (K : Xit → Env → Heap → Option R) : evJ (tagtree_New_Ct tagtree_valid) (tagtree_New_Jt k tagtree_New_l0 tagtree_New_p1) tagtree_New_i1 (List.zip [0,1,7] [.int .i64 n29,.int .i64 n30,.pointer p31]) H (fun x e' H' => K x (clean e' ((⟨[0,1,7],[],[4,5]⟩ : Out).of x)) H') = tagtree_New_p1_b k n29 n30 p31 (fun n1337 n1338 p1339 => K .normal [(0,.int .i64 n1337),(1,.int .i64 n1338),(7,.pointer p1339)] H) (fun p1340 n1341 => K .ret [(4,.pointer p1340),(5,.int .i64 n1341)] H) := by kernel_rfl
theorem tagtree_New_j1 {R : Type} (k : Nat) : JS Try.prog 45 (tagtree_New_a1 R k k) [0,1,7] ⟨[0,1,7],[],[4,5]⟩ (sel [1,1,1,0,0,0,1,0] (Try.f11.body.getD .skip)) :=
  piece_ok (nt := 45) (c := (sel [1,1,1,0,0,0,1,0] (Try.f11.body.getD .skip))) (C := tagtree_New_C R k) (an := An) (t := (.seq (.reg [0,1,7,37] []) (.cond (.seq (.reg [4,5] []) .leaf) .leaf))) (ic := tagtree_New_i1) (tagtree_New_S R k) (tagtree_New_J R k) (by kernel_rfl) (And.intro True.intro (And.intro (And.intro True.intro True.intro) True.intro)) (tagtree_New_a1 R k k)
    (fun vals H K r h => by
      unfold tagtree_New_a1 tagtree_New_aa1 at h
      split at h <;> first | (cases h; done) | exact Eq.trans (tagtree_New_e1 (tagtree_valid k) (tagtree_New_l0 k) (tagtree_New_p1 k) k _ _ _ H K) h)
theorem tagtree_New_e0 {R : Type} (tagtree_valid : tagtree_valid_t R) (tagtree_New_l0 : tagtree_New_l0_t R) (tagtree_New_p1 : tagtree_New_p1_t R) (k n : Nat) (n8 : Int) (n9 : Int) (p10 : Oa) (H : Heap) (K : Xit → Env → Heap → Option R) : evJ (tagtree_New_Ct tagtree_valid) (tagtree_New_Jt k tagtree_New_l0 tagtree_New_p1) tagtree_New_i0 (List.zip [0,1,7] [.int .i64 n8,.int .i64 n9,.pointer p10]) H (fun x e' H' => match x with | .normal => tagtree_New_aa0 tagtree_New_l0 n ((clean e' [0,1,7]).map (·.2)) H' K | x => K x (clean e' ((⟨[],[],[4,5]⟩ : Out).of x)) H') = tagtree_New_l0_b tagtree_New_p1 (tagtree_New_l0 (fun p1335 n1336 H => K .ret [(4,.pointer p1335),(5,.int .i64 n1336)] H) n) (fun p1335 n1336 H => K .ret [(4,.pointer p1335),(5,.int .i64 n1336)] H) k n8 n9 p10 H := by kernel_rfl
theorem tagtree_New_j0 {R : Type} (k : Nat) : JS Try.prog 45 (tagtree_New_a0 R k k) [0,1,7] ⟨[],[],[4,5]⟩ (.loop (sel [1,1,1,0,0] (Try.f11.body.getD .skip))) :=
  loop_ok (nt := 45) (c := (sel [1,1,1,0,0] (Try.f11.body.getD .skip))) (C := tagtree_New_C R k) (an := An) (t := (.node (.seq (.reg [0,1,7] [[],[],[1],[1,2],[1,2,3],[],[],[],[],[7,8],[7,8,9],[5,6,7,8,9,10],[5,6,7,8,9,10,11],[1,2,3,4,5,6,7,8,9,10,11,12],[0,1,2,3,4,5,6,7,8,9,10,11,12,13],[0,1,2,3,4,5,6,7,8,9,10,11,12,13,14],[0,1,2,3,4,5,6,7,8,9,10,11,12,13,14,15]]) (.seq (.opq 1 [0,1,7] ⟨[0,1,7],[],[4,5]⟩ (.seq (.reg [0,1,7,37] []) (.cond (.seq (.reg [4,5] []) .leaf) .leaf))) (.reg [0,1,7] []))))) (ic := tagtree_New_i0) (tagtree_New_S R k) (tagtree_New_J R k) (by kernel_rfl) (And.intro True.intro (And.intro (tagtree_New_j1 k) True.intro)) (tagtree_New_a0 R k) (fun vals H K => by unfold tagtree_New_a0 tagtree_New_aa0; split <;> rfl)
    (fun n vals H K r h => by
      unfold tagtree_New_a0 tagtree_New_aa0 at h
      split at h <;> first | (cases h; done) | exact Eq.trans (tagtree_New_e0 (tagtree_valid k) (tagtree_New_l0 k) (tagtree_New_p1 k) k n _ _ _ H K) h) k
def tagtree_New_ca {R : Type} (f : tagtree_New_t R) (args : List Value) (H : Heap) (K : Value → Heap → Option R) : Option R :=
  match args with
  | [.int .i64 n3,.int .i64 n4] => f n3 n4 H (fun p1342 n1343 H => K (.tuple ⟨[.pointer p1342,.int .i64 n1343]⟩) H)
  | _ => none
def tagtree_New_c (R : Type) (k : Nat) (args : List Value) (H : Heap) (K : Value → Heap → Option R) : Option R := tagtree_New_ca (tagtree_New k) args H K
theorem tagtree_New_e {R : Type} (tagtree_valid : tagtree_valid_t R) (tagtree_New_l0 : tagtree_New_l0_t R) (tagtree_New_p1 : tagtree_New_p1_t R) (k : Nat) (n3 : Int) (n4 : Int) (H : Heap) (K : Value → Heap → Option R) : evF (tagtree_New_Ct tagtree_valid) (tagtree_New_Jt k tagtree_New_l0 tagtree_New_p1) tagtree_New_f [.int .i64 n3,.int .i64 n4] H K = tagtree_New_b tagtree_valid tagtree_New_l0 k n3 n4 H (fun p1342 n1343 H => K (.tuple ⟨[.pointer p1342,.int .i64 n1343]⟩) H) := by kernel_rfl
theorem tagtree_New_cs (R : Type) (k : Nat) : ∀ args H K r,tagtree_New_c R k args H K = some r → ∃ v H',Tri Try.prog 11 args H v H' ∧ K v H' = some r := by
  intro args H K r h
  unfold tagtree_New_c tagtree_New_ca at h
  split at h
  · exact evF_ok (C := tagtree_New_C R k) (an := An) (t := tagtree_New_at) (fn := Try.f11) (c := (Try.f11.body.getD .skip)) (ifn := tagtree_New_f) (tagtree_New_S R k) (tagtree_New_J R k) Try.func11 (by kernel_rfl) (by kernel_rfl) (And.intro True.intro (And.intro (And.intro True.intro (And.intro True.intro (And.intro (And.intro True.intro True.intro) True.intro))) (And.intro True.intro (tagtree_New_j0 k)))) rfl (Eq.trans (tagtree_New_e (tagtree_valid k) (tagtree_New_l0 k) (tagtree_New_p1 k) k _ _ H K) h)
  · cases h
/-! ### tagtree_Depth: function 13 -/
abbrev tagtree_Depth_p1_t (R : Type) : Type := Int → Int → Int → (Int → Option R) → (Int → Int → Int → Option R) → Option R
def tagtree_Depth_p1_b {R : Type} (k : Nat) (n102 : Int) (n103 : Int) (n104 : Int) (KE0 : Int → Option R) (KN : Int → Int → Int → Option R) : Option R :=
bif decide (n102 > 1) then (KN n102 n103 n104)
 else (bif decide (n103 > 1) then (KN n102 n103 n104)
 else (KE0 n104))
def tagtree_Depth_p1 {R : Type} (k : Nat) (n102 : Int) (n103 : Int) (n104 : Int) (KE0 : Int → Option R) (KN : Int → Int → Int → Option R) : Option R := tagtree_Depth_p1_b k n102 n103 n104 KE0 KN

abbrev tagtree_Depth_l0_t (R : Type) : Type := (Int → Option R) → Nat → Int → Int → Int → Option R
def tagtree_Depth_l0_b {R : Type} (tagtree_Depth_p1 : tagtree_Depth_p1_t R) (rec : Int → Int → Int → Option R) (KE0 : Int → Option R) (k : Nat) (n99 : Int) (n100 : Int) (n101 : Int) : Option R :=
tagtree_Depth_p1 n99 n100 n101 (fun n109 =>
KE0 n109) (fun n110 n111 n112 =>
rec (IntKind.wrap .i64 (Int.tdiv (IntKind.wrap .i64 (n110 + 1)) 2)) (IntKind.wrap .i64 (Int.tdiv (IntKind.wrap .i64 (n111 + 1)) 2)) (IntKind.wrap .i64 (n112 + 1)))
def tagtree_Depth_l0 {R : Type} (k : Nat) (KE0 : Int → Option R) : Nat → Int → Int → Int → Option R
  | 0,_,_,_ => none
  | n + 1,n99,n100,n101 => tagtree_Depth_l0_b (tagtree_Depth_p1 k) (tagtree_Depth_l0 k KE0 n) KE0 k n99 n100 n101

abbrev tagtree_Depth_t (R : Type) : Type := Int → Int → (Int → Option R) → Option R

def tagtree_Depth_b {R : Type} (tagtree_valid : tagtree_valid_t R) (tagtree_Depth_l0 : tagtree_Depth_l0_t R) (k : Nat) (n96 : Int) (n97 : Int) (K : Int → Option R) : Option R :=
tagtree_valid n96 n97 fun n98 =>
bif (n98 != 0) then (K 0)
 else (tagtree_Depth_l0 (fun n114 =>
K n114) k n96 n97 1)

def tagtree_Depth {R : Type} (k : Nat) (n96 : Int) (n97 : Int) (K : Int → Option R) : Option R := tagtree_Depth_b (tagtree_valid k) (tagtree_Depth_l0 k) k n96 n97 K

def tagtree_Depth_Ct {R : Type} (tagtree_valid : tagtree_valid_t R) : Tab R := tcons 37 (tagtree_valid_ca tagtree_valid) <| fun _ _ _ _ => none
def tagtree_Depth_C (R : Type) (k : Nat) : Tab R := tagtree_Depth_Ct (tagtree_valid k)
theorem tagtree_Depth_S (R : Type) (k : Nat) : CSound Try.prog (tagtree_Depth_C R k) := csound_cons (tagtree_valid_cs R k) <| csound_nil
def tagtree_Depth_aa0 {R : Type} (f : tagtree_Depth_l0_t R) (n : Nat) (vals : List Value) (H : Heap) (K : Xit → Env → Heap → Option R) : Option R :=
  match vals with
  | [.int .i64 n99,.int .i64 n100,.int .i64 n101] => f (fun n1344 => K (.exit 0) [(5,.int .i64 n1344)] H) n n99 n100 n101
  | _ => none
def tagtree_Depth_a0 (R : Type) (k n : Nat) (vals : List Value) (H : Heap) (K : Xit → Env → Heap → Option R) : Option R := tagtree_Depth_aa0 (tagtree_Depth_l0 k) n vals H K
def tagtree_Depth_aa1 {R : Type} (f : tagtree_Depth_p1_t R) (n : Nat) (vals : List Value) (H : Heap) (K : Xit → Env → Heap → Option R) : Option R :=
  match vals with
  | [.int .i64 n102,.int .i64 n103,.int .i64 n104] => f n102 n103 n104 (fun n1345 => K (.exit 0) [(5,.int .i64 n1345)] H) (fun n1346 n1347 n1348 => K .normal [(0,.int .i64 n1346),(1,.int .i64 n1347),(5,.int .i64 n1348)] H)
  | _ => none
def tagtree_Depth_a1 (R : Type) (k n : Nat) (vals : List Value) (H : Heap) (K : Xit → Env → Heap → Option R) : Option R := tagtree_Depth_aa1 (tagtree_Depth_p1 k) n vals H K
def tagtree_Depth_Jt {R : Type} (k : Nat) (tagtree_Depth_l0 : tagtree_Depth_l0_t R) (tagtree_Depth_p1 : tagtree_Depth_p1_t R) : JTab R := tcons 0 (tagtree_Depth_aa0 tagtree_Depth_l0 k) <| tcons 1 (tagtree_Depth_aa1 tagtree_Depth_p1 k) <| fun _ _ _ _ => none
def tagtree_Depth_J (R : Type) (k : Nat) : JTab R := tagtree_Depth_Jt k (tagtree_Depth_l0 k) (tagtree_Depth_p1 k)
def tagtree_Depth_at : AT := (.seq (.reg [0,1] []) (.seq (.seq (.reg [0,1,9] []) (.cond (.seq (.reg [4] []) .leaf) .leaf)) (.seq (.reg [0,1,5] []) (.seq (.node (.opq 0 [0,1,5] ⟨[],[(0,[5])],[]⟩ (.node (.seq (.opq 1 [0,1,5] ⟨[0,1,5],[(0,[5])],[]⟩ (.seq (.reg [0,1,5,15] []) (.cond .leaf .leaf))) (.seq (.node (.reg [0,1,5] [])) (.reg [0,1,5] [])))))) (.seq (.reg [4] []) .leaf)))))
def tagtree_Depth_i1 : IC := (.seq (.reg [⟨some 10,.mov (.t 0),none⟩,
⟨some 11,.cmp .gtr (.t 10) (.c (Go.Value.int Go.IntKind.i64 1)),none⟩,
⟨some 12,.mov (.t 11),none⟩,
⟨some 13,.mov (.t 1),some (12,false)⟩,
⟨some 14,.cmp .gtr (.t 13) (.c (Go.Value.int Go.IntKind.i64 1)),some (12,false)⟩,
⟨some 15,.pick (.t 12) (.c (Go.Value.bool true)) (.t 14),none⟩] [0,1,5,15]) (.cond (.t 15) .skip (.exit 0)))
def tagtree_Depth_i0 : IC := (.seq (.opq 1 [0,1,5] tagtree_Depth_i1) (.seq (.block 1 (.reg [⟨some 18,.mov (.t 0),none⟩,
⟨some 19,.bin .add .i64 (.t 18) (.c (Go.Value.int Go.IntKind.i64 1)),none⟩,
⟨some 20,.bin .quo .i64 (.t 19) (.c (Go.Value.int Go.IntKind.i64 2)),none⟩,
⟨some 21,.mov (.t 1),none⟩,
⟨some 22,.bin .add .i64 (.t 21) (.c (Go.Value.int Go.IntKind.i64 1)),none⟩,
⟨some 23,.bin .quo .i64 (.t 22) (.c (Go.Value.int Go.IntKind.i64 2)),none⟩,
⟨some 0,.mov (.t 20),none⟩,
⟨some 1,.mov (.t 23),none⟩] [0,1,5])) (.reg [⟨some 16,.mov (.t 5),none⟩,
⟨some 17,.bin .add .i64 (.t 16) (.c (Go.Value.int Go.IntKind.i64 1)),none⟩,
⟨some 5,.mov (.t 17),none⟩] [0,1,5])))
def tagtree_Depth_f : IFn := ⟨25,[.t 4],(.seq (.reg [⟨some 4,.mov (.c (Go.Value.int Go.IntKind.i64 0)),none⟩] [0,1]) (.seq (.seq (.reg [⟨some 6,.mov (.t 0),none⟩,
⟨some 7,.mov (.t 1),none⟩,
⟨some 8,.call 37 [(.t 6),(.t 7)] (.one (.sc (.int .i64))),none⟩,
⟨some 9,.cmp .neq (.t 8) (.c (Go.Value.int Go.IntKind.i64 0)),none⟩] [0,1,9]) (.cond (.t 9) (.seq (.reg [⟨some 4,.mov (.c (Go.Value.int Go.IntKind.i64 0)),none⟩] [4]) .ret) .skip)) (.seq (.reg [⟨some 5,.mov (.c (Go.Value.int Go.IntKind.i64 1)),none⟩] [0,1,5]) (.seq (.block 0 (.opq 0 [0,1,5] (.loop tagtree_Depth_i0))) (.seq (.reg [⟨some 24,.mov (.t 5),none⟩,
⟨some 4,.mov (.t 24),none⟩] [4]) .ret)))))⟩
theorem tagtree_Depth_e1 {R : Type} (tagtree_valid : tagtree_valid_t R) (tagtree_Depth_l0 : tagtree_Depth_l0_t R) (tagtree_Depth_p1 : tagtree_Depth_p1_t R) (k : Nat) (n102 : Int) (n103 : Int) (n104 : Int) (H : Heap) (K : Xit → Env → Heap → Option R) : evJ (tagtree_Depth_Ct tagtree_valid) (tagtree_Depth_Jt k tagtree_Depth_l0 tagtree_Depth_p1) tagtree_Depth_i1 (List.zip [0,1,5] [.int .i64 n102,.int .i64 n103,.int .i64 n104]) H (fun x e' H' => K x (clean e' ((⟨[0,1,5],[(0,[5])],[]⟩ : Out).of x)) H') = tagtree_Depth_p1_b k n102 n103 n104 (fun n1345 => K (.exit 0) [(5,.int .i64 n1345)] H) (fun n1346 n1347 n1348 => K .normal [(0,.int .i64 n1346),(1,.int .i64 n1347),(5,.int .i64 n1348)] H) := by kernel_rfl
theorem tagtree_Depth_j1 {R : Type} (k : Nat) : JS Try.prog 25 (tagtree_Depth_a1 R k k) [0,1,5] ⟨[0,1,5],[(0,[5])],[]⟩ (sel [1,1,1,0,0,0,0] (Try.f13.body.getD .skip)) :=
  piece_ok (nt := 25) (c := (sel [1,1,1,0,0,0,0] (Try.f13.body.getD .skip))) (C := tagtree_Depth_C R k) (an := An) (t := (.seq (.reg [0,1,5,15] []) (.cond .leaf .leaf))) (ic := tagtree_Depth_i1) (tagtree_Depth_S R k) (tagtree_Depth_J R k) (by kernel_rfl) (And.intro True.intro (And.intro True.intro True.intro)) (tagtree_Depth_a1 R k k)
    (fun vals H K r h => by
      unfold tagtree_Depth_a1 tagtree_Depth_aa1 at h
      split at h <;> first | (cases h; done) | exact Eq.trans (tagtree_Depth_e1 (tagtree_valid k) (tagtree_Depth_l0 k) (tagtree_Depth_p1 k) k _ _ _ H K) h)
theorem tagtree_Depth_e0 {R : Type} (tagtree_valid : tagtree_valid_t R) (tagtree_Depth_l0 : tagtree_Depth_l0_t R) (tagtree_Depth_p1 : tagtree_Depth_p1_t R) (k n : Nat) (n99 : Int) (n100 : Int) (n101 : Int) (H : Heap) (K : Xit → Env → Heap → Option R) : evJ (tagtree_Depth_Ct tagtree_valid) (tagtree_Depth_Jt k tagtree_Depth_l0 tagtree_Depth_p1) tagtree_Depth_i0 (List.zip [0,1,5] [.int .i64 n99,.int .i64 n100,.int .i64 n101]) H (fun x e' H' => match x with | .normal => tagtree_Depth_aa0 tagtree_Depth_l0 n ((clean e' [0,1,5]).map (·.2)) H' K | x => K x (clean e' ((⟨[],[(0,[5])],[]⟩ : Out).of x)) H') = tagtree_Depth_l0_b tagtree_Depth_p1 (tagtree_Depth_l0 (fun n1344 => K (.exit 0) [(5,.int .i64 n1344)] H) n) (fun n1344 => K (.exit 0) [(5,.int .i64 n1344)] H) k n99 n100 n101 := by kernel_rfl
theorem tagtree_Depth_j0 {R : Type} (k : Nat) : JS Try.prog 25 (tagtree_Depth_a0 R k k) [0,1,5] ⟨[],[(0,[5])],[]⟩ (.loop (sel [1,1,1,0,0,0] (Try.f13.body.getD .skip))) :=
  loop_ok (nt := 25) (c := (sel [1,1,1,0,0,0] (Try.f13.body.getD .skip))) (C := tagtree_Depth_C R k) (an := An) (t := (.seq (.opq 1 [0,1,5] ⟨[0,1,5],[(0,[5])],[]⟩ (.seq (.reg [0,1,5,15] []) (.cond .leaf .leaf))) (.seq (.node (.reg [0,1,5] [])) (.reg [0,1,5] [])))) (ic := tagtree_Depth_i0) (tagtree_Depth_S R k) (tagtree_Depth_J R k) (by kernel_rfl) (And.intro (tagtree_Depth_j1 k) (And.intro True.intro True.intro)) (tagtree_Depth_a0 R k) (fun vals H K => by unfold tagtree_Depth_a0 tagtree_Depth_aa0; split <;> rfl)
    (fun n vals H K r h => by
      unfold tagtree_Depth_a0 tagtree_Depth_aa0 at h
      split at h <;> first | (cases h; done) | exact Eq.trans (tagtree_Depth_e0 (tagtree_valid k) (tagtree_Depth_l0 k) (tagtree_Depth_p1 k) k n _ _ _ H K) h) k
def tagtree_Depth_ca {R : Type} (f : tagtree_Depth_t R) (args : List Value) (H : Heap) (K : Value → Heap → Option R) : Option R :=
  match args with
  | [.int .i64 n96,.int .i64 n97] => f n96 n97 (fun n1349 => K (.int .i64 n1349) H)
  | _ => none
def tagtree_Depth_c (R : Type) (k : Nat) (args : List Value) (H : Heap) (K : Value → Heap → Option R) : Option R := tagtree_Depth_ca (tagtree_Depth k) args H K
theorem tagtree_Depth_e {R : Type} (tagtree_valid : tagtree_valid_t R) (tagtree_Depth_l0 : tagtree_Depth_l0_t R) (tagtree_Depth_p1 : tagtree_Depth_p1_t R) (k : Nat) (n96 : Int) (n97 : Int) (H : Heap) (K : Value → Heap → Option R) : evF (tagtree_Depth_Ct tagtree_valid) (tagtree_Depth_Jt k tagtree_Depth_l0 tagtree_Depth_p1) tagtree_Depth_f [.int .i64 n96,.int .i64 n97] H K = tagtree_Depth_b tagtree_valid tagtree_Depth_l0 k n96 n97 (fun n1349 => K (.int .i64 n1349) H) := by kernel_rfl
theorem tagtree_Depth_cs (R : Type) (k : Nat) : ∀ args H K r,tagtree_Depth_c R k args H K = some r → ∃ v H',Tri Try.prog 13 args H v H' ∧ K v H' = some r := by
  intro args H K r h
  unfold tagtree_Depth_c tagtree_Depth_ca at h
  split at h
  · exact evF_ok (C := tagtree_Depth_C R k) (an := An) (t := tagtree_Depth_at) (fn := Try.f13) (c := (Try.f13.body.getD .skip)) (ifn := tagtree_Depth_f) (tagtree_Depth_S R k) (tagtree_Depth_J R k) Try.func13 (by kernel_rfl) (by kernel_rfl) (And.intro True.intro (And.intro (And.intro True.intro (And.intro (And.intro True.intro True.intro) True.intro)) (And.intro True.intro (And.intro (tagtree_Depth_j0 k) (And.intro True.intro True.intro))))) rfl (Eq.trans (tagtree_Depth_e (tagtree_valid k) (tagtree_Depth_l0 k) (tagtree_Depth_p1 k) k _ _ H K) h)
  · cases h
/-! ### bitio_NewWriter: function 17 -/
abbrev bitio_NewWriter_t (R : Type) : Type := Heap → (Oa → Heap → Option R) → Option R

def bitio_NewWriter_b {R : Type} (k : Nat) (H : Heap) (K : Oa → Heap → Option R) : Option R :=
hal H [.bool true,.slice none 0 0,.int .u8 0,.int .i64 0,.int .i64 8,.int .i64 0] fun p133 H134 =>
K p133 H134

def bitio_NewWriter {R : Type} (H : Heap) (K : Oa → Heap → Option R) : Option R := bitio_NewWriter_b 0 H K

def bitio_NewWriter_Ct {R : Type} : Tab R := fun _ _ _ _ => none
def bitio_NewWriter_C (R : Type) (k : Nat) : Tab R := bitio_NewWriter_Ct
theorem bitio_NewWriter_S (R : Type) (k : Nat) : CSound Try.prog (bitio_NewWriter_C R k) := csound_nil
def bitio_NewWriter_Jt {R : Type} (k : Nat) : JTab R := fun _ _ _ _ => none
def bitio_NewWriter_J (R : Type) (k : Nat) : JTab R := bitio_NewWriter_Jt k
def bitio_NewWriter_at : AT := (.seq (.reg [] []) (.seq (.reg [0] []) .leaf))
def bitio_NewWriter_f : IFn := ⟨3,[.t 0],(.seq (.reg [⟨some 0,.mov (.c (Go.Value.pointer none)),none⟩] []) (.seq (.reg [⟨some 1,.bld [.bool false,.slice none 0 0,.int .u8 0,.int .i64 0,.int .i64 0,.int .i64 0] [(0,1,(.c (Go.Value.bool true))),(4,1,(.c (Go.Value.int Go.IntKind.i64 8)))],none⟩,
⟨some 2,.box (.t 1),none⟩,
⟨some 0,.mov (.t 2),none⟩] [0]) .ret))⟩
def bitio_NewWriter_ca {R : Type} (f : bitio_NewWriter_t R) (args : List Value) (H : Heap) (K : Value → Heap → Option R) : Option R :=
  match args with
  | [] => f H (fun p1350 H => K (.pointer p1350) H)
  | _ => none
def bitio_NewWriter_c (R : Type) (k : Nat) (args : List Value) (H : Heap) (K : Value → Heap → Option R) : Option R := bitio_NewWriter_ca bitio_NewWriter args H K
theorem bitio_NewWriter_e {R : Type} (k : Nat) (H : Heap) (K : Value → Heap → Option R) : evF (bitio_NewWriter_Ct) (bitio_NewWriter_Jt k) bitio_NewWriter_f [] H K = bitio_NewWriter_b k H (fun p1350 H => K (.pointer p1350) H) := by kernel_rfl
theorem bitio_NewWriter_cs (R : Type) (k : Nat) : ∀ args H K r,bitio_NewWriter_c R k args H K = some r → ∃ v H',Tri Try.prog 17 args H v H' ∧ K v H' = some r := by
  intro args H K r h
  unfold bitio_NewWriter_c bitio_NewWriter_ca at h
  split at h
  · exact evF_ok (C := bitio_NewWriter_C R 0) (an := An) (t := bitio_NewWriter_at) (fn := Try.f17) (c := (Try.f17.body.getD .skip)) (ifn := bitio_NewWriter_f) (bitio_NewWriter_S R 0) (bitio_NewWriter_J R 0) Try.func17 (by kernel_rfl) (by kernel_rfl) (And.intro True.intro (And.intro True.intro True.intro)) rfl (Eq.trans (bitio_NewWriter_e 0 H K) h)
  · cases h
/-! ### tagtree_Tree_ok: function 38 -/
abbrev tagtree_Tree_ok_t (R : Type) : Type := Oa → Heap → (Bool → Option R) → Option R

def tagtree_Tree_ok_b {R : Type} (k : Nat) (p149 : Oa) (H : Heap) (K : Bool → Option R) : Option R :=
bif p149.isSome then (hnil p149 fun p150 =>
hfad 0 p150 fun p151 =>
ldL H p151 fun q152 l153 c154 =>
K (decide (((l153 : Nat) : Int) > 0)))
 else (K false)

def tagtree_Tree_ok {R : Type} (p149 : Oa) (H : Heap) (K : Bool → Option R) : Option R := tagtree_Tree_ok_b 0 p149 H K

def tagtree_Tree_ok_Ct {R : Type} : Tab R := fun _ _ _ _ => none
def tagtree_Tree_ok_C (R : Type) (k : Nat) : Tab R := tagtree_Tree_ok_Ct
theorem tagtree_Tree_ok_S (R : Type) (k : Nat) : CSound Try.prog (tagtree_Tree_ok_C R k) := csound_nil
def tagtree_Tree_ok_Jt {R : Type} (k : Nat) : JTab R := fun _ _ _ _ => none
def tagtree_Tree_ok_J (R : Type) (k : Nat) : JTab R := tagtree_Tree_ok_Jt k
def tagtree_Tree_ok_at : AT := (.seq (.reg [0] []) (.seq (.reg [2] []) .leaf))
def tagtree_Tree_ok_f : IFn := ⟨13,[.t 2],(.seq (.reg [⟨some 2,.mov (.c (Go.Value.bool false)),none⟩] [0]) (.seq (.reg [⟨some 3,.mov (.t 0),none⟩,
⟨some 4,.eqnil (.t 3) true 0,none⟩,
⟨some 5,.mov (.t 4),none⟩,
⟨some 6,.mov (.t 0),some (5,true)⟩,
⟨some 7,.nilc (.t 6),some (5,true)⟩,
⟨some 8,.fad 0 (.t 7),some (5,true)⟩,
⟨some 9,.ld (.sc .slc) (.t 8),some (5,true)⟩,
⟨some 10,.len false (.t 9),some (5,true)⟩,
⟨some 11,.cmp .gtr (.t 10) (.c (Go.Value.int Go.IntKind.i64 0)),some (5,true)⟩,
⟨some 12,.pick (.t 5) (.t 11) (.c (Go.Value.bool false)),none⟩,
⟨some 2,.mov (.t 12),none⟩] [2]) .ret))⟩
def tagtree_Tree_ok_ca {R : Type} (f : tagtree_Tree_ok_t R) (args : List Value) (H : Heap) (K : Value → Heap → Option R) : Option R :=
  match args with
  | [.pointer p149] => f p149 H (fun t1351 => K (.bool t1351) H)
  | _ => none
def tagtree_Tree_ok_c (R : Type) (k : Nat) (args : List Value) (H : Heap) (K : Value → Heap → Option R) : Option R := tagtree_Tree_ok_ca tagtree_Tree_ok args H K
theorem tagtree_Tree_ok_e {R : Type} (k : Nat) (p149 : Oa) (H : Heap) (K : Value → Heap → Option R) : evF (tagtree_Tree_ok_Ct) (tagtree_Tree_ok_Jt k) tagtree_Tree_ok_f [.pointer p149] H K = tagtree_Tree_ok_b k p149 H (fun t1351 => K (.bool t1351) H) := by kernel_rfl
theorem tagtree_Tree_ok_cs (R : Type) (k : Nat) : ∀ args H K r,tagtree_Tree_ok_c R k args H K = some r → ∃ v H',Tri Try.prog 38 args H v H' ∧ K v H' = some r := by
  intro args H K r h
  unfold tagtree_Tree_ok_c tagtree_Tree_ok_ca at h
  split at h
  · exact evF_ok (C := tagtree_Tree_ok_C R 0) (an := An) (t := tagtree_Tree_ok_at) (fn := Try.f38) (c := (Try.f38.body.getD .skip)) (ifn := tagtree_Tree_ok_f) (tagtree_Tree_ok_S R 0) (tagtree_Tree_ok_J R 0) Try.func38 (by kernel_rfl) (by kernel_rfl) (And.intro True.intro (And.intro True.intro True.intro)) rfl (Eq.trans (tagtree_Tree_ok_e 0 _ H K) h)
  · cases h
/-! ### tagtree_Tree_has: function 39 -/
abbrev tagtree_Tree_has_t (R : Type) : Type := Oa → Int → Int → Heap → (Bool → Heap → Option R) → Option R

def tagtree_Tree_has_b {R : Type} (k : Nat) (p169 : Oa) (n170 : Int) (n171 : Int) (H : Heap) (K : Bool → Heap → Option R) : Option R :=
hnil p169 fun p172 =>
hfad 0 p172 fun p173 =>
ldL H p173 fun q174 l175 c176 =>
hidx q174 l175 0 3 fun p177 =>
ldI .i64 H (pad p177 0) fun n178 =>
ldI .i64 H (pad p177 1) fun n179 =>
ldL H (pad p177 2) fun q180 l181 c182 =>
hal H [.int .i64 0,.int .i64 0,.slice none 0 0] fun p183 H184 =>
hst H184 p183 [.int .i64 n178,.int .i64 n179,.slice q180 l181 c182] fun H185 =>
bif decide (n170 ≥ 0) then (bif decide (n171 ≥ 0) then (hfad 0 p183 fun p186 =>
ldI .i64 H185 p186 fun n187 =>
bif decide (n170 < n187) then (hfad 1 p183 fun p188 =>
ldI .i64 H185 p188 fun n189 =>
K (decide (n171 < n189)) H185)
 else (K false H185))
 else (K false H185))
 else (K false H185)

def tagtree_Tree_has {R : Type} (p169 : Oa) (n170 : Int) (n171 : Int) (H : Heap) (K : Bool → Heap → Option R) : Option R := tagtree_Tree_has_b 0 p169 n170 n171 H K

def tagtree_Tree_has_Ct {R : Type} : Tab R := fun _ _ _ _ => none
def tagtree_Tree_has_C (R : Type) (k : Nat) : Tab R := tagtree_Tree_has_Ct
theorem tagtree_Tree_has_S (R : Type) (k : Nat) : CSound Try.prog (tagtree_Tree_has_C R k) := csound_nil
def tagtree_Tree_has_Jt {R : Type} (k : Nat) : JTab R := fun _ _ _ _ => none
def tagtree_Tree_has_J (R : Type) (k : Nat) : JTab R := tagtree_Tree_has_Jt k
def tagtree_Tree_has_at : AT := (.seq (.reg [0,1,2] []) (.seq (.reg [1,2,7] []) (.seq (.reg [6] []) .leaf)))
def tagtree_Tree_has_f : IFn := ⟨32,[.t 6],(.seq (.reg [⟨some 6,.mov (.c (Go.Value.bool false)),none⟩] [0,1,2]) (.seq (.reg [⟨some 8,.mov (.t 0),none⟩,
⟨some 9,.nilc (.t 8),none⟩,
⟨some 10,.fad 0 (.t 9),none⟩,
⟨some 11,.ld (.sc .slc) (.t 10),none⟩,
⟨some 12,.ids 3 (.t 11) (.c (Go.Value.int Go.IntKind.i64 0)),none⟩,
⟨some 13,.ld (.agg [(.int .i64),(.int .i64),.slc]) (.t 12),none⟩,
⟨some 7,.alc [.int .i64 0,.int .i64 0,.slice none 0 0],none⟩,
⟨none,.st 3 (.t 7) (.t 13),none⟩] [1,2,7]) (.seq (.reg [⟨some 14,.mov (.t 1),none⟩,
⟨some 15,.cmp .geq (.t 14) (.c (Go.Value.int Go.IntKind.i64 0)),none⟩,
⟨some 16,.mov (.t 15),none⟩,
⟨some 17,.mov (.t 2),some (16,true)⟩,
⟨some 18,.cmp .geq (.t 17) (.c (Go.Value.int Go.IntKind.i64 0)),some (16,true)⟩,
⟨some 19,.pick (.t 16) (.t 18) (.c (Go.Value.bool false)),none⟩,
⟨some 20,.mov (.t 19),none⟩,
⟨some 21,.mov (.t 1),some (20,true)⟩,
⟨some 22,.fad 0 (.t 7),some (20,true)⟩,
⟨some 23,.ld (.sc (.int .i64)) (.t 22),some (20,true)⟩,
⟨some 24,.cmp .lss (.t 21) (.t 23),some (20,true)⟩,
⟨some 25,.pick (.t 20) (.t 24) (.c (Go.Value.bool false)),none⟩,
⟨some 26,.mov (.t 25),none⟩,
⟨some 27,.mov (.t 2),some (26,true)⟩,
⟨some 28,.fad 1 (.t 7),some (26,true)⟩,
⟨some 29,.ld (.sc (.int .i64)) (.t 28),some (26,true)⟩,
⟨some 30,.cmp .lss (.t 27) (.t 29),some (26,true)⟩,
⟨some 31,.pick (.t 26) (.t 30) (.c (Go.Value.bool false)),none⟩,
⟨some 6,.mov (.t 31),none⟩] [6]) .ret)))⟩
def tagtree_Tree_has_ca {R : Type} (f : tagtree_Tree_has_t R) (args : List Value) (H : Heap) (K : Value → Heap → Option R) : Option R :=
  match args with
  | [.pointer p169,.int .i64 n170,.int .i64 n171] => f p169 n170 n171 H (fun t1352 H => K (.bool t1352) H)
  | _ => none
def tagtree_Tree_has_c (R : Type) (k : Nat) (args : List Value) (H : Heap) (K : Value → Heap → Option R) : Option R := tagtree_Tree_has_ca tagtree_Tree_has args H K
theorem tagtree_Tree_has_e {R : Type} (k : Nat) (p169 : Oa) (n170 : Int) (n171 : Int) (H : Heap) (K : Value → Heap → Option R) : evF (tagtree_Tree_has_Ct) (tagtree_Tree_has_Jt k) tagtree_Tree_has_f [.pointer p169,.int .i64 n170,.int .i64 n171] H K = tagtree_Tree_has_b k p169 n170 n171 H (fun t1352 H => K (.bool t1352) H) := by kernel_rfl
theorem tagtree_Tree_has_cs (R : Type) (k : Nat) : ∀ args H K r,tagtree_Tree_has_c R k args H K = some r → ∃ v H',Tri Try.prog 39 args H v H' ∧ K v H' = some r := by
  intro args H K r h
  unfold tagtree_Tree_has_c tagtree_Tree_has_ca at h
  split at h
  · exact evF_ok (C := tagtree_Tree_has_C R 0) (an := An) (t := tagtree_Tree_has_at) (fn := Try.f39) (c := (Try.f39.body.getD .skip)) (ifn := tagtree_Tree_has_f) (tagtree_Tree_has_S R 0) (tagtree_Tree_has_J R 0) Try.func39 (by kernel_rfl) (by kernel_rfl) (And.intro True.intro (And.intro True.intro (And.intro True.intro True.intro))) rfl (Eq.trans (tagtree_Tree_has_e 0 _ _ _ H K) h)
  · cases h
/-! ### tagtree_Tree_at: function 40 -/
abbrev tagtree_Tree_at_t (R : Type) : Type := Oa → Int → Int → Int → Heap → (Oa → Option R) → Option R

def tagtree_Tree_at_b {R : Type} (k : Nat) (p181 : Oa) (n182 : Int) (n183 : Int) (n184 : Int) (H : Heap) (K : Oa → Option R) : Option R :=
hnil p181 fun p185 =>
hfad 0 p185 fun p186 =>
ldL H p186 fun q187 l188 c189 =>
hidx q187 l188 n182 3 fun p190 =>
hnil p190 fun p191 =>
hfad 2 p191 fun p192 =>
ldL H p192 fun q193 l194 c195 =>
hbin .shr .i64 n184 (IntKind.wrap .u64 n182) fun n196 =>
hnil p190 fun p197 =>
hfad 0 p197 fun p198 =>
ldI .i64 H p198 fun n199 =>
hbin .shr .i64 n183 (IntKind.wrap .u64 n182) fun n200 =>
hidx q193 l194 (IntKind.wrap .i64 ((IntKind.wrap .i64 (n196 * n199)) + n200)) 3 fun p201 =>
K p201

def tagtree_Tree_at {R : Type} (p181 : Oa) (n182 : Int) (n183 : Int) (n184 : Int) (H : Heap) (K : Oa → Option R) : Option R := tagtree_Tree_at_b 0 p181 n182 n183 n184 H K

def tagtree_Tree_at_Ct {R : Type} : Tab R := fun _ _ _ _ => none
def tagtree_Tree_at_C (R : Type) (k : Nat) : Tab R := tagtree_Tree_at_Ct
theorem tagtree_Tree_at_S (R : Type) (k : Nat) : CSound Try.prog (tagtree_Tree_at_C R k) := csound_nil
def tagtree_Tree_at_Jt {R : Type} (k : Nat) : JTab R := fun _ _ _ _ => none
def tagtree_Tree_at_J (R : Type) (k : Nat) : JTab R := tagtree_Tree_at_Jt k
def tagtree_Tree_at_at : AT := (.seq (.reg [0,1,2,3] []) (.seq (.reg [1,2,3,9] []) (.seq (.reg [8] [[],[0],[0,1],[0,1,2],[],[],[5],[4,5,6],[],[8],[8,9],[8,9,10],[4,5,6,7,8,9,10,11],[],[],[14],[13,14,15],[4,5,6,7,8,9,10,11,12,13,14,15,16],[0,1,2,3,4,5,6,7,8,9,10,11,12,13,14,15,16,17],[0,1,2,3,4,5,6,7,8,9,10,11,12,13,14,15,16,17,18]]) .leaf)))
def tagtree_Tree_at_f : IFn := ⟨35,[.t 8],(.seq (.reg [⟨some 8,.mov (.c (Go.Value.pointer none)),none⟩] [0,1,2,3]) (.seq (.reg [⟨some 10,.mov (.t 0),none⟩,
⟨some 11,.nilc (.t 10),none⟩,
⟨some 12,.fad 0 (.t 11),none⟩,
⟨some 13,.ld (.sc .slc) (.t 12),none⟩,
⟨some 14,.mov (.t 1),none⟩,
⟨some 15,.ids 3 (.t 13) (.t 14),none⟩,
⟨some 9,.mov (.t 15),none⟩] [1,2,3,9]) (.seq (.reg [⟨some 16,.mov (.t 9),none⟩,
⟨some 17,.nilc (.t 16),none⟩,
⟨some 18,.fad 2 (.t 17),none⟩,
⟨some 19,.ld (.sc .slc) (.t 18),none⟩,
⟨some 20,.mov (.t 3),none⟩,
⟨some 21,.mov (.t 1),none⟩,
⟨some 22,.cnv .u64 (.t 21),none⟩,
⟨some 23,.bin .shr .i64 (.t 20) (.t 22),none⟩,
⟨some 24,.mov (.t 9),none⟩,
⟨some 25,.nilc (.t 24),none⟩,
⟨some 26,.fad 0 (.t 25),none⟩,
⟨some 27,.ld (.sc (.int .i64)) (.t 26),none⟩,
⟨some 28,.bin .mul .i64 (.t 23) (.t 27),none⟩,
⟨some 29,.mov (.t 2),none⟩,
⟨some 30,.mov (.t 1),none⟩,
⟨some 31,.cnv .u64 (.t 30),none⟩,
⟨some 32,.bin .shr .i64 (.t 29) (.t 31),none⟩,
⟨some 33,.bin .add .i64 (.t 28) (.t 32),none⟩,
⟨some 34,.ids 3 (.t 19) (.t 33),none⟩,
⟨some 8,.mov (.t 34),none⟩] [8]) .ret)))⟩
def tagtree_Tree_at_ca {R : Type} (f : tagtree_Tree_at_t R) (args : List Value) (H : Heap) (K : Value → Heap → Option R) : Option R :=
  match args with
  | [.pointer p181,.int .i64 n182,.int .i64 n183,.int .i64 n184] => f p181 n182 n183 n184 H (fun p1353 => K (.pointer p1353) H)
  | _ => none
def tagtree_Tree_at_c (R : Type) (k : Nat) (args : List Value) (H : Heap) (K : Value → Heap → Option R) : Option R := tagtree_Tree_at_ca tagtree_Tree_at args H K
theorem tagtree_Tree_at_e {R : Type} (k : Nat) (p181 : Oa) (n182 : Int) (n183 : Int) (n184 : Int) (H : Heap) (K : Value → Heap → Option R) : evF (tagtree_Tree_at_Ct) (tagtree_Tree_at_Jt k) tagtree_Tree_at_f [.pointer p181,.int .i64 n182,.int .i64 n183,.int .i64 n184] H K = tagtree_Tree_at_b k p181 n182 n183 n184 H (fun p1353 => K (.pointer p1353) H) := by kernel_rfl
theorem tagtree_Tree_at_cs (R : Type) (k : Nat) : ∀ args H K r,tagtree_Tree_at_c R k args H K = some r → ∃ v H',Tri Try.prog 40 args H v H' ∧ K v H' = some r := by
  intro args H K r h
  unfold tagtree_Tree_at_c tagtree_Tree_at_ca at h
  split at h
  · exact evF_ok (C := tagtree_Tree_at_C R 0) (an := An) (t := tagtree_Tree_at_at) (fn := Try.f40) (c := (Try.f40.body.getD .skip)) (ifn := tagtree_Tree_at_f) (tagtree_Tree_at_S R 0) (tagtree_Tree_at_J R 0) Try.func40 (by kernel_rfl) (by kernel_rfl) (And.intro True.intro (And.intro True.intro (And.intro True.intro True.intro))) rfl (Eq.trans (tagtree_Tree_at_e 0 _ _ _ _ H K) h)
  · cases h
/-! ### tagtree_Tree_Set: function 19 -/
abbrev tagtree_Tree_Set_p0_t (R : Type) : Type := Oa → Int → Int → Int → Heap → (Oa → Int → Int → Int → Option R) → (Int → Option R) → Option R
def tagtree_Tree_Set_p0_b {R : Type} (tagtree_Tree_ok : tagtree_Tree_ok_t R) (k : Nat) (p145 : Oa) (n146 : Int) (n147 : Int) (n148 : Int) (H : Heap) (KN : Oa → Int → Int → Int → Option R) (KR : Int → Option R) : Option R :=
tagtree_Tree_ok p145 H fun t149 =>
bif (!t149) then (KR 6)
 else (hnil p145 fun p150 =>
hfad 1 p150 fun p151 =>
ldB H p151 fun t152 =>
bif t152 then (KR 6)
 else (hnil p145 fun p153 =>
hfad 2 p153 fun p154 =>
ldB H p154 fun t155 =>
bif t155 then (KR 6)
 else (KN p145 n146 n147 n148)))
def tagtree_Tree_Set_p0 {R : Type} (k : Nat) (p145 : Oa) (n146 : Int) (n147 : Int) (n148 : Int) (H : Heap) (KN : Oa → Int → Int → Int → Option R) (KR : Int → Option R) : Option R := tagtree_Tree_Set_p0_b tagtree_Tree_ok k p145 n146 n147 n148 H KN KR

abbrev tagtree_Tree_Set_p1_t (R : Type) : Type := Oa → Int → Int → Int → Heap → (Oa → Int → Int → Int → Heap → Option R) → (Int → Heap → Option R) → Option R
def tagtree_Tree_Set_p1_b {R : Type} (tagtree_Tree_has : tagtree_Tree_has_t R) (k : Nat) (p165 : Oa) (n166 : Int) (n167 : Int) (n168 : Int) (H : Heap) (KN : Oa → Int → Int → Int → Heap → Option R) (KR : Int → Heap → Option R) : Option R :=
tagtree_Tree_has p165 n166 n167 H fun t169 H170 =>
bif (!t169) then (KR 2 H170)
 else (bif decide (n168 < 0) then (KR 2 H170)
 else (bif decide (n168 > 65535) then (KR 2 H170)
 else (KN p165 n166 n167 n168 H170)))
def tagtree_Tree_Set_p1 {R : Type} (k : Nat) (p165 : Oa) (n166 : Int) (n167 : Int) (n168 : Int) (H : Heap) (KN : Oa → Int → Int → Int → Heap → Option R) (KR : Int → Heap → Option R) : Option R := tagtree_Tree_Set_p1_b tagtree_Tree_has k p165 n166 n167 n168 H KN KR

abbrev tagtree_Tree_Set_t (R : Type) : Type := Oa → Int → Int → Int → Heap → (Int → Heap → Option R) → Option R

def tagtree_Tree_Set_b {R : Type} (tagtree_Tree_Set_p0 : tagtree_Tree_Set_p0_t R) (tagtree_Tree_Set_p1 : tagtree_Tree_Set_p1_t R) (tagtree_Tree_at : tagtree_Tree_at_t R) (k : Nat) (p141 : Oa) (n142 : Int) (n143 : Int) (n144 : Int) (H : Heap) (K : Int → Heap → Option R) : Option R :=
tagtree_Tree_Set_p0 p141 n142 n143 n144 H (fun p161 n162 n163 n164 =>
tagtree_Tree_Set_p1 p161 n162 n163 n164 H (fun p176 n177 n178 n179 H180 =>
tagtree_Tree_at p176 0 n177 n178 H180 fun p181 =>
hnil p181 fun p182 =>
hfad 0 p182 fun p183 =>
hst1 H180 p183 (.int .i64 n179) fun H184 =>
K 0 H184) (fun n185 H186 =>
K n185 H186)) (fun n187 =>
K n187 H)

def tagtree_Tree_Set {R : Type} (k : Nat) (p141 : Oa) (n142 : Int) (n143 : Int) (n144 : Int) (H : Heap) (K : Int → Heap → Option R) : Option R := tagtree_Tree_Set_b (tagtree_Tree_Set_p0 k) (tagtree_Tree_Set_p1 k) tagtree_Tree_at k p141 n142 n143 n144 H K

def tagtree_Tree_Set_Ct {R : Type} (tagtree_Tree_ok : tagtree_Tree_ok_t R) (tagtree_Tree_has : tagtree_Tree_has_t R) (tagtree_Tree_at : tagtree_Tree_at_t R) : Tab R := tcons 38 (tagtree_Tree_ok_ca tagtree_Tree_ok) <| tcons 39 (tagtree_Tree_has_ca tagtree_Tree_has) <| tcons 40 (tagtree_Tree_at_ca tagtree_Tree_at) <| fun _ _ _ _ => none
def tagtree_Tree_Set_C (R : Type) (k : Nat) : Tab R := tagtree_Tree_Set_Ct tagtree_Tree_ok tagtree_Tree_has tagtree_Tree_at
theorem tagtree_Tree_Set_S (R : Type) (k : Nat) : CSound Try.prog (tagtree_Tree_Set_C R k) := csound_cons (tagtree_Tree_ok_cs R k) <| csound_cons (tagtree_Tree_has_cs R k) <| csound_cons (tagtree_Tree_at_cs R k) <| csound_nil
def tagtree_Tree_Set_aa0 {R : Type} (f : tagtree_Tree_Set_p0_t R) (n : Nat) (vals : List Value) (H : Heap) (K : Xit → Env → Heap → Option R) : Option R :=
  match vals with
  | [.pointer p145,.int .i64 n146,.int .i64 n147,.int .i64 n148] => f p145 n146 n147 n148 H (fun p1354 n1355 n1356 n1357 => K .normal [(0,.pointer p1354),(1,.int .i64 n1355),(2,.int .i64 n1356),(3,.int .i64 n1357)] H) (fun n1358 => K .ret [(8,.int .i64 n1358)] H)
  | _ => none
def tagtree_Tree_Set_a0 (R : Type) (k n : Nat) (vals : List Value) (H : Heap) (K : Xit → Env → Heap → Option R) : Option R := tagtree_Tree_Set_aa0 (tagtree_Tree_Set_p0 k) n vals H K
def tagtree_Tree_Set_aa1 {R : Type} (f : tagtree_Tree_Set_p1_t R) (n : Nat) (vals : List Value) (H : Heap) (K : Xit → Env → Heap → Option R) : Option R :=
  match vals with
  | [.pointer p165,.int .i64 n166,.int .i64 n167,.int .i64 n168] => f p165 n166 n167 n168 H (fun p1359 n1360 n1361 n1362 H => K .normal [(0,.pointer p1359),(1,.int .i64 n1360),(2,.int .i64 n1361),(3,.int .i64 n1362)] H) (fun n1363 H => K .ret [(8,.int .i64 n1363)] H)
  | _ => none
def tagtree_Tree_Set_a1 (R : Type) (k n : Nat) (vals : List Value) (H : Heap) (K : Xit → Env → Heap → Option R) : Option R := tagtree_Tree_Set_aa1 (tagtree_Tree_Set_p1 k) n vals H K
def tagtree_Tree_Set_Jt {R : Type} (k : Nat) (tagtree_Tree_Set_p0 : tagtree_Tree_Set_p0_t R) (tagtree_Tree_Set_p1 : tagtree_Tree_Set_p1_t R) : JTab R := tcons 0 (tagtree_Tree_Set_aa0 tagtree_Tree_Set_p0 k) <| tcons 1 (tagtree_Tree_Set_aa1 tagtree_Tree_Set_p1 k) <| fun _ _ _ _ => none
def tagtree_Tree_Set_J (R : Type) (k : Nat) : JTab R := tagtree_Tree_Set_Jt k (tagtree_Tree_Set_p0 k) (tagtree_Tree_Set_p1 k)
def tagtree_Tree_Set_at : AT := (.seq (.reg [0,1,2,3] []) (.seq (.opq 0 [0,1,2,3] ⟨[0,1,2,3],[],[8]⟩ (.seq (.reg [0,1,2,3,23] []) (.cond (.seq (.reg [8] []) .leaf) .leaf))) (.seq (.opq 1 [0,1,2,3] ⟨[0,1,2,3],[],[8]⟩ (.seq (.reg [0,1,2,3,36] []) (.cond (.seq (.reg [8] []) .leaf) .leaf))) (.seq (.reg [] []) (.seq (.reg [8] []) .leaf)))))
def tagtree_Tree_Set_i1 : IC := (.seq (.reg [⟨some 24,.mov (.t 0),none⟩,
⟨some 25,.mov (.t 1),none⟩,
⟨some 26,.mov (.t 2),none⟩,
⟨some 27,.call 39 [(.t 24),(.t 25),(.t 26)] (.one (.sc .bool)),none⟩,
⟨some 28,.lnot (.t 27),none⟩,
⟨some 29,.mov (.t 28),none⟩,
⟨some 30,.mov (.t 3),some (29,false)⟩,
⟨some 31,.cmp .lss (.t 30) (.c (Go.Value.int Go.IntKind.i64 0)),some (29,false)⟩,
⟨some 32,.pick (.t 29) (.c (Go.Value.bool true)) (.t 31),none⟩,
⟨some 33,.mov (.t 32),none⟩,
⟨some 34,.mov (.t 3),some (33,false)⟩,
⟨some 35,.cmp .gtr (.t 34) (.c (Go.Value.int Go.IntKind.i64 65535)),some (33,false)⟩,
⟨some 36,.pick (.t 33) (.c (Go.Value.bool true)) (.t 35),none⟩] [0,1,2,3,36]) (.cond (.t 36) (.seq (.reg [⟨some 8,.mov (.c (Go.Value.int Go.IntKind.i64 2)),none⟩] [8]) .ret) .skip))
def tagtree_Tree_Set_i0 : IC := (.seq (.reg [⟨some 9,.mov (.t 0),none⟩,
⟨some 10,.call 38 [(.t 9)] (.one (.sc .bool)),none⟩,
⟨some 11,.lnot (.t 10),none⟩,
⟨some 12,.mov (.t 11),none⟩,
⟨some 13,.mov (.t 0),some (12,false)⟩,
⟨some 14,.nilc (.t 13),some (12,false)⟩,
⟨some 15,.fad 1 (.t 14),some (12,false)⟩,
⟨some 16,.ld (.sc .bool) (.t 15),some (12,false)⟩,
⟨some 17,.pick (.t 12) (.c (Go.Value.bool true)) (.t 16),none⟩,
⟨some 18,.mov (.t 17),none⟩,
⟨some 19,.mov (.t 0),some (18,false)⟩,
⟨some 20,.nilc (.t 19),some (18,false)⟩,
⟨some 21,.fad 2 (.t 20),some (18,false)⟩,
⟨some 22,.ld (.sc .bool) (.t 21),some (18,false)⟩,
⟨some 23,.pick (.t 18) (.c (Go.Value.bool true)) (.t 22),none⟩] [0,1,2,3,23]) (.cond (.t 23) (.seq (.reg [⟨some 8,.mov (.c (Go.Value.int Go.IntKind.i64 6)),none⟩] [8]) .ret) .skip))
def tagtree_Tree_Set_f : IFn := ⟨44,[.t 8],(.seq (.reg [⟨some 8,.mov (.c (Go.Value.int Go.IntKind.i64 0)),none⟩] [0,1,2,3]) (.seq (.opq 0 [0,1,2,3] tagtree_Tree_Set_i0) (.seq (.opq 1 [0,1,2,3] tagtree_Tree_Set_i1) (.seq (.reg [⟨some 37,.mov (.t 0),none⟩,
⟨some 38,.mov (.t 1),none⟩,
⟨some 39,.mov (.t 2),none⟩,
⟨some 40,.call 40 [(.t 37),(.c (Go.Value.int Go.IntKind.i64 0)),(.t 38),(.t 39)] (.one (.sc .ptr)),none⟩,
⟨some 41,.mov (.t 3),none⟩,
⟨some 42,.nilc (.t 40),none⟩,
⟨some 43,.fad 0 (.t 42),none⟩,
⟨none,.st 1 (.t 43) (.t 41),none⟩] []) (.seq (.reg [⟨some 8,.mov (.c (Go.Value.int Go.IntKind.i64 0)),none⟩] [8]) .ret)))))⟩
theorem tagtree_Tree_Set_e1 {R : Type} (tagtree_Tree_ok : tagtree_Tree_ok_t R) (tagtree_Tree_has : tagtree_Tree_has_t R) (tagtree_Tree_at : tagtree_Tree_at_t R) (tagtree_Tree_Set_p0 : tagtree_Tree_Set_p0_t R) (tagtree_Tree_Set_p1 : tagtree_Tree_Set_p1_t R) (k : Nat) (p165 : Oa) (n166 : Int) (n167 : Int) (n168 : Int) (H : Heap) (K : Xit → Env → Heap → Option R) : evJ (tagtree_Tree_Set_Ct tagtree_Tree_ok tagtree_Tree_has tagtree_Tree_at) (tagtree_Tree_Set_Jt k tagtree_Tree_Set_p0 tagtree_Tree_Set_p1) tagtree_Tree_Set_i1 (List.zip [0,1,2,3] [.pointer p165,.int .i64 n166,.int .i64 n167,.int .i64 n168]) H (fun x e' H' => K x (clean e' ((⟨[0,1,2,3],[],[8]⟩ : Out).of x)) H') = tagtree_Tree_Set_p1_b tagtree_Tree_has k p165 n166 n167 n168 H (fun p1359 n1360 n1361 n1362 H => K .normal [(0,.pointer p1359),(1,.int .i64 n1360),(2,.int .i64 n1361),(3,.int .i64 n1362)] H) (fun n1363 H => K .ret [(8,.int .i64 n1363)] H) := by kernel_rfl
theorem tagtree_Tree_Set_j1 {R : Type} (k : Nat) : JS Try.prog 44 (tagtree_Tree_Set_a1 R k k) [0,1,2,3] ⟨[0,1,2,3],[],[8]⟩ (sel [1,1,0] (Try.f19.body.getD .skip)) :=
  piece_ok (nt := 44) (c := (sel [1,1,0] (Try.f19.body.getD .skip))) (C := tagtree_Tree_Set_C R k) (an := An) (t := (.seq (.reg [0,1,2,3,36] []) (.cond (.seq (.reg [8] []) .leaf) .leaf))) (ic := tagtree_Tree_Set_i1) (tagtree_Tree_Set_S R k) (tagtree_Tree_Set_J R k) (by kernel_rfl) (And.intro True.intro (And.intro (And.intro True.intro True.intro) True.intro)) (tagtree_Tree_Set_a1 R k k)
    (fun vals H K r h => by
      unfold tagtree_Tree_Set_a1 tagtree_Tree_Set_aa1 at h
      split at h <;> first | (cases h; done) | exact Eq.trans (tagtree_Tree_Set_e1 tagtree_Tree_ok tagtree_Tree_has tagtree_Tree_at (tagtree_Tree_Set_p0 k) (tagtree_Tree_Set_p1 k) k _ _ _ _ H K) h)
theorem tagtree_Tree_Set_e0 {R : Type} (tagtree_Tree_ok : tagtree_Tree_ok_t R) (tagtree_Tree_has : tagtree_Tree_has_t R) (tagtree_Tree_at : tagtree_Tree_at_t R) (tagtree_Tree_Set_p0 : tagtree_Tree_Set_p0_t R) (tagtree_Tree_Set_p1 : tagtree_Tree_Set_p1_t R) (k : Nat) (p145 : Oa) (n146 : Int) (n147 : Int) (n148 : Int) (H : Heap) (K : Xit → Env → Heap → Option R) : evJ (tagtree_Tree_Set_Ct tagtree_Tree_ok tagtree_Tree_has tagtree_Tree_at) (tagtree_Tree_Set_Jt k tagtree_Tree_Set_p0 tagtree_Tree_Set_p1) tagtree_Tree_Set_i0 (List.zip [0,1,2,3] [.pointer p145,.int .i64 n146,.int .i64 n147,.int .i64 n148]) H (fun x e' H' => K x (clean e' ((⟨[0,1,2,3],[],[8]⟩ : Out).of x)) H') = tagtree_Tree_Set_p0_b tagtree_Tree_ok k p145 n146 n147 n148 H (fun p1354 n1355 n1356 n1357 => K .normal [(0,.pointer p1354),(1,.int .i64 n1355),(2,.int .i64 n1356),(3,.int .i64 n1357)] H) (fun n1358 => K .ret [(8,.int .i64 n1358)] H) := by kernel_rfl
theorem tagtree_Tree_Set_j0 {R : Type} (k : Nat) : JS Try.prog 44 (tagtree_Tree_Set_a0 R k k) [0,1,2,3] ⟨[0,1,2,3],[],[8]⟩ (sel [1,0] (Try.f19.body.getD .skip)) :=
  piece_ok (nt := 44) (c := (sel [1,0] (Try.f19.body.getD .skip))) (C := tagtree_Tree_Set_C R k) (an := An) (t := (.seq (.reg [0,1,2,3,23] []) (.cond (.seq (.reg [8] []) .leaf) .leaf))) (ic := tagtree_Tree_Set_i0) (tagtree_Tree_Set_S R k) (tagtree_Tree_Set_J R k) (by kernel_rfl) (And.intro True.intro (And.intro (And.intro True.intro True.intro) True.intro)) (tagtree_Tree_Set_a0 R k k)
    (fun vals H K r h => by
      unfold tagtree_Tree_Set_a0 tagtree_Tree_Set_aa0 at h
      split at h <;> first | (cases h; done) | exact Eq.trans (tagtree_Tree_Set_e0 tagtree_Tree_ok tagtree_Tree_has tagtree_Tree_at (tagtree_Tree_Set_p0 k) (tagtree_Tree_Set_p1 k) k _ _ _ _ H K) h)
def tagtree_Tree_Set_ca {R : Type} (f : tagtree_Tree_Set_t R) (args : List Value) (H : Heap) (K : Value → Heap → Option R) : Option R :=
  match args with
  | [.pointer p141,.int .i64 n142,.int .i64 n143,.int .i64 n144] => f p141 n142 n143 n144 H (fun n1364 H => K (.int .i64 n1364) H)
  | _ => none
def tagtree_Tree_Set_c (R : Type) (k : Nat) (args : List Value) (H : Heap) (K : Value → Heap → Option R) : Option R := tagtree_Tree_Set_ca (tagtree_Tree_Set k) args H K
theorem tagtree_Tree_Set_e {R : Type} (tagtree_Tree_ok : tagtree_Tree_ok_t R) (tagtree_Tree_has : tagtree_Tree_has_t R) (tagtree_Tree_at : tagtree_Tree_at_t R) (tagtree_Tree_Set_p0 : tagtree_Tree_Set_p0_t R) (tagtree_Tree_Set_p1 : tagtree_Tree_Set_p1_t R) (k : Nat) (p141 : Oa) (n142 : Int) (n143 : Int) (n144 : Int) (H : Heap) (K : Value → Heap → Option R) : evF (tagtree_Tree_Set_Ct tagtree_Tree_ok tagtree_Tree_has tagtree_Tree_at) (tagtree_Tree_Set_Jt k tagtree_Tree_Set_p0 tagtree_Tree_Set_p1) tagtree_Tree_Set_f [.pointer p141,.int .i64 n142,.int .i64 n143,.int .i64 n144] H K = tagtree_Tree_Set_b tagtree_Tree_Set_p0 tagtree_Tree_Set_p1 tagtree_Tree_at k p141 n142 n143 n144 H (fun n1364 H => K (.int .i64 n1364) H) := by kernel_rfl
theorem tagtree_Tree_Set_cs (R : Type) (k : Nat) : ∀ args H K r,tagtree_Tree_Set_c R k args H K = some r → ∃ v H',Tri Try.prog 19 args H v H' ∧ K v H' = some r := by
  intro args H K r h
  unfold tagtree_Tree_Set_c tagtree_Tree_Set_ca at h
  split at h
  · exact evF_ok (C := tagtree_Tree_Set_C R k) (an := An) (t := tagtree_Tree_Set_at) (fn := Try.f19) (c := (Try.f19.body.getD .skip)) (ifn := tagtree_Tree_Set_f) (tagtree_Tree_Set_S R k) (tagtree_Tree_Set_J R k) Try.func19 (by kernel_rfl) (by kernel_rfl) (And.intro True.intro (And.intro (tagtree_Tree_Set_j0 k) (And.intro (tagtree_Tree_Set_j1 k) (And.intro True.intro (And.intro True.intro True.intro))))) rfl (Eq.trans (tagtree_Tree_Set_e tagtree_Tree_ok tagtree_Tree_has tagtree_Tree_at (tagtree_Tree_Set_p0 k) (tagtree_Tree_Set_p1 k) k _ _ _ _ H K) h)
  · cases h
end Go.Proofs.Ytblkejnciinaeaa.Sh
