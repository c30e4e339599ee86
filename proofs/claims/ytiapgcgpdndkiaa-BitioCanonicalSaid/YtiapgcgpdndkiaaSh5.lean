/- Lean functions that stand for Go's, over an explicit heap, and the proofs that they do (written by this claim's program shallow.py). -/
import Derived.Test.YtiapgcgpdndkiaaSh0
set_option maxRecDepth 100000
set_option linter.unusedVariables false
set_option linter.unusedSimpArgs false
namespace Go.Proofs.Ytiapgcgpdndkiaa.Sh
open Go.Proofs.Ytiapgcgpdndkiaa.FW
/-! ### L_few: function 10 -/
def L_few_p2_b {R : Type} (k : Nat) (n26 : Int) (p27 : Option Addr) (q28 : Option Addr) (l29 : Nat) (c30 : Nat) (n31 : Int) (n32 : Int) (H : Heap) (KN : Int → Option Addr → Option Addr → Nat → Nat → Int → Int → Bool → Option R) : Option R :=
hfad 0 p27 fun p33 =>
ldI .i64 H p33 fun n34 =>
bif (n34 == 3) then (hfad 1 p27 fun p35 =>
ldI .i64 H p35 fun n36 =>
bif decide (n36 > 0) then (hfad 1 p27 fun p37 =>
ldI .i64 H p37 fun n38 =>
KN n26 p27 q28 l29 c30 n31 n32 (decide (n38 ≤ 65535)))
 else (KN n26 p27 q28 l29 c30 n31 n32 false))
 else (KN n26 p27 q28 l29 c30 n31 n32 false)
def L_few_p2 {R : Type} (k : Nat) (n26 : Int) (p27 : Option Addr) (q28 : Option Addr) (l29 : Nat) (c30 : Nat) (n31 : Int) (n32 : Int) (H : Heap) (KN : Int → Option Addr → Option Addr → Nat → Nat → Int → Int → Bool → Option R) : Option R := L_few_p2_b k n26 p27 q28 l29 c30 n31 n32 H KN

def L_few_p1_b {R : Type} (L_few_p2 : Int → Option Addr → Option Addr → Nat → Nat → Int → Int → Heap → (Int → Option Addr → Option Addr → Nat → Nat → Int → Int → Bool → Option R) → Option R) (k : Nat) (n13 : Int) (q14 : Option Addr) (l15 : Nat) (c16 : Nat) (n17 : Int) (n18 : Int) (H : Heap) (KN : Int → Option Addr → Nat → Nat → Int → Int → Heap → Option R) : Option R :=
hidx q14 l15 n18 3 fun p19 =>
ldI .i64 H (pad p19 0) fun n20 =>
ldI .i64 H (pad p19 1) fun n21 =>
ldI .i64 H (pad p19 2) fun n22 =>
hal H [.int .i64 0, .int .i64 0, .int .i64 0] fun p23 H24 =>
hst H24 p23 [.int .i64 n20, .int .i64 n21, .int .i64 n22] fun H25 =>
L_few_p2 n13 p23 q14 l15 c16 n17 n18 H25 (fun n47 p48 q49 l50 c51 n52 n53 t54 =>
bif t54 then (hfad 1 p48 fun p55 =>
ldI .i64 H25 p55 fun n56 =>
KN (IntKind.wrap .i64 (n47 + n56)) q49 l50 c51 n52 n53 H25)
 else (KN n47 q49 l50 c51 n52 n53 H25))
def L_few_p1 {R : Type} (k : Nat) (n13 : Int) (q14 : Option Addr) (l15 : Nat) (c16 : Nat) (n17 : Int) (n18 : Int) (H : Heap) (KN : Int → Option Addr → Nat → Nat → Int → Int → Heap → Option R) : Option R := L_few_p1_b (L_few_p2 k) k n13 q14 l15 c16 n17 n18 H KN

def L_few_l0_b {R : Type} (L_few_p1 : Int → Option Addr → Nat → Nat → Int → Int → Heap → (Int → Option Addr → Nat → Nat → Int → Int → Heap → Option R) → Option R) (rec : Int → Option Addr → Nat → Nat → Int → Int → Heap → Option R) (KE0 : Int → Heap → Option R) (k : Nat) (n7 : Int) (q8 : Option Addr) (l9 : Nat) (c10 : Nat) (n11 : Int) (n12 : Int) (H : Heap) : Option R :=
bif decide (n12 < n11) then (L_few_p1 n7 q8 l9 c10 n11 n12 H (fun n63 q64 l65 c66 n67 n68 H69 =>
rec n63 q64 l65 c66 n67 (IntKind.wrap .i64 (n68 + 1)) H69))
 else (KE0 n7 H)
def L_few_l0 {R : Type} (k : Nat) (KE0 : Int → Heap → Option R) : Nat → Int → Option Addr → Nat → Nat → Int → Int → Heap → Option R
  | 0, _, _, _, _, _, _, _ => none
  | n + 1, n7, q8, l9, c10, n11, n12, H => L_few_l0_b (L_few_p1 k) (L_few_l0 k KE0 n) KE0 k n7 q8 l9 c10 n11 n12 H

def L_few_b {R : Type} (L_few_l0 : (Int → Heap → Option R) → Nat → Int → Option Addr → Nat → Nat → Int → Int → Heap → Option R) (k : Nat) (q4 : Option Addr) (l5 : Nat) (c6 : Nat) (H : Heap) (K : Bool → Heap → Option R) : Option R :=
bif decide (((l5 : Nat) : Int) > 200) then (K false H)
 else (L_few_l0 (fun n71 H72 =>
K (decide (n71 ≤ 70000)) H72) k 0 q4 l5 c6 ((l5 : Nat) : Int) 0 H)

def L_few {R : Type} (k : Nat) (q4 : Option Addr) (l5 : Nat) (c6 : Nat) (H : Heap) (K : Bool → Heap → Option R) : Option R := L_few_b (L_few_l0 k) k q4 l5 c6 H K

def L_few_Ct {R : Type} : Tab R := fun _ _ _ _ => none
def L_few_C (R : Type) (k : Nat) : Tab R := L_few_Ct
theorem L_few_S (R : Type) (k : Nat) : CSound Try.prog (L_few_C R k) := csound_nil
def L_few_aa0 {R : Type} (f : (Int → Heap → Option R) → Nat → Int → Option Addr → Nat → Nat → Int → Int → Heap → Option R) (n : Nat) (vals : List Value) (H : Heap) (K : Xit → Env → Heap → Option R) : Option R :=
  match vals with
  | [.int .i64 n7, .slice q8 l9 c10, .int .i64 n11, .int .i64 n12] => f (fun n947 H => K (.exit 0) [(3, .int .i64 n947)] H) n n7 q8 l9 c10 n11 n12 H
  | _ => none
def L_few_a0 (R : Type) (k n : Nat) (vals : List Value) (H : Heap) (K : Xit → Env → Heap → Option R) : Option R := L_few_aa0 (L_few_l0 k) n vals H K
def L_few_aa1 {R : Type} (f : Int → Option Addr → Nat → Nat → Int → Int → Heap → (Int → Option Addr → Nat → Nat → Int → Int → Heap → Option R) → Option R) (n : Nat) (vals : List Value) (H : Heap) (K : Xit → Env → Heap → Option R) : Option R :=
  match vals with
  | [.int .i64 n13, .slice q14 l15 c16, .int .i64 n17, .int .i64 n18] => f n13 q14 l15 c16 n17 n18 H (fun n948 q949 l950 c951 n952 n953 H => K .normal [(3, .int .i64 n948), (9, .slice q949 l950 c951), (10, .int .i64 n952), (11, .int .i64 n953)] H)
  | _ => none
def L_few_a1 (R : Type) (k n : Nat) (vals : List Value) (H : Heap) (K : Xit → Env → Heap → Option R) : Option R := L_few_aa1 (L_few_p1 k) n vals H K
def L_few_aa2 {R : Type} (f : Int → Option Addr → Option Addr → Nat → Nat → Int → Int → Heap → (Int → Option Addr → Option Addr → Nat → Nat → Int → Int → Bool → Option R) → Option R) (n : Nat) (vals : List Value) (H : Heap) (K : Xit → Env → Heap → Option R) : Option R :=
  match vals with
  | [.int .i64 n26, .pointer p27, .slice q28 l29 c30, .int .i64 n31, .int .i64 n32] => f n26 p27 q28 l29 c30 n31 n32 H (fun n954 p955 q956 l957 c958 n959 n960 t961 => K .normal [(3, .int .i64 n954), (5, .pointer p955), (9, .slice q956 l957 c958), (10, .int .i64 n959), (11, .int .i64 n960), (27, .bool t961)] H)
  | _ => none
def L_few_a2 (R : Type) (k n : Nat) (vals : List Value) (H : Heap) (K : Xit → Env → Heap → Option R) : Option R := L_few_aa2 (L_few_p2 k) n vals H K
def L_few_Jt {R : Type} (k : Nat) (L_few_l0 : (Int → Heap → Option R) → Nat → Int → Option Addr → Nat → Nat → Int → Int → Heap → Option R) (L_few_p1 : Int → Option Addr → Nat → Nat → Int → Int → Heap → (Int → Option Addr → Nat → Nat → Int → Int → Heap → Option R) → Option R) (L_few_p2 : Int → Option Addr → Option Addr → Nat → Nat → Int → Int → Heap → (Int → Option Addr → Option Addr → Nat → Nat → Int → Int → Bool → Option R) → Option R) : JTab R := tcons 0 (L_few_aa0 L_few_l0 k) <| tcons 1 (L_few_aa1 L_few_p1 k) <| tcons 2 (L_few_aa2 L_few_p2 k) <| fun _ _ _ _ => none
def L_few_J (R : Type) (k : Nat) : JTab R := L_few_Jt k (L_few_l0 k) (L_few_p1 k) (L_few_p2 k)
def L_few_at : AT := (.seq (.reg [0] []) (.seq (.seq (.reg [0, 8] []) (.cond (.seq (.reg [2] []) .leaf) .leaf)) (.seq (.reg [0, 3] []) (.seq (.seq (.reg [3, 9, 10, 11] []) (.node (.opq 0 [3, 9, 10, 11] ⟨[], [(0, [3])], []⟩ (.node (.seq (.reg [3, 9, 10, 11, 12] []) (.seq (.cond .leaf .leaf) (.seq (.opq 1 [3, 9, 10, 11] ⟨[3, 9, 10, 11], [], []⟩ (.node (.seq (.reg [3, 5, 9, 10, 11] []) (.seq (.opq 2 [3, 5, 9, 10, 11] ⟨[3, 5, 9, 10, 11, 27], [], []⟩ (.reg [3, 5, 9, 10, 11, 27] [])) (.cond (.reg [3, 9, 10, 11] []) .leaf))))) (.reg [3, 9, 10, 11] [])))))))) (.seq (.reg [2] []) .leaf)))))
def L_few_i2 : IC := (.reg [⟨some 15, .fad 0 (.t 5), none⟩,
 ⟨some 16, .ld (.sc (.int .i64)) (.t 15), none⟩,
 ⟨some 17, .cmp .eql (.t 16) (.c (Go.Value.int Go.IntKind.i64 3)), none⟩,
 ⟨some 18, .mov (.t 17), none⟩,
 ⟨some 19, .fad 1 (.t 5), some (18, true)⟩,
 ⟨some 20, .ld (.sc (.int .i64)) (.t 19), some (18, true)⟩,
 ⟨some 21, .cmp .gtr (.t 20) (.c (Go.Value.int Go.IntKind.i64 0)), some (18, true)⟩,
 ⟨some 22, .pick (.t 18) (.t 21) (.c (Go.Value.bool false)), none⟩,
 ⟨some 23, .mov (.t 22), none⟩,
 ⟨some 24, .fad 1 (.t 5), some (23, true)⟩,
 ⟨some 25, .ld (.sc (.int .i64)) (.t 24), some (23, true)⟩,
 ⟨some 26, .cmp .leq (.t 25) (.c (Go.Value.int Go.IntKind.i64 65535)), some (23, true)⟩,
 ⟨some 27, .pick (.t 23) (.t 26) (.c (Go.Value.bool false)), none⟩] [3, 5, 9, 10, 11, 27])
def L_few_i1 : IC := (.block 1 (.seq (.reg [⟨some 13, .ids 3 (.t 9) (.t 11), none⟩,
 ⟨some 14, .ld (.agg [(.int .i64), (.int .i64), (.int .i64)]) (.t 13), none⟩,
 ⟨some 5, .alc [.int .i64 0, .int .i64 0, .int .i64 0], none⟩,
 ⟨none, .st 3 (.t 5) (.t 14), none⟩] [3, 5, 9, 10, 11]) (.seq (.opq 2 [3, 5, 9, 10, 11] L_few_i2) (.cond (.t 27) (.reg [⟨some 28, .mov (.t 3), none⟩,
 ⟨some 29, .fad 1 (.t 5), none⟩,
 ⟨some 30, .ld (.sc (.int .i64)) (.t 29), none⟩,
 ⟨some 31, .bin .add .i64 (.t 28) (.t 30), none⟩,
 ⟨some 3, .mov (.t 31), none⟩] [3, 9, 10, 11]) .skip))))
def L_few_i0 : IC := (.seq (.reg [⟨some 12, .cmp .lss (.t 11) (.t 10), none⟩] [3, 9, 10, 11, 12]) (.seq (.cond (.t 12) .skip (.exit 0)) (.seq (.opq 1 [3, 9, 10, 11] L_few_i1) (.reg [⟨some 32, .bin .add .i64 (.t 11) (.c (Go.Value.int Go.IntKind.i64 1)), none⟩,
 ⟨some 11, .mov (.t 32), none⟩] [3, 9, 10, 11]))))
def L_few_f : IFn := ⟨35, [.t 2], (.seq (.reg [⟨some 2, .mov (.c (Go.Value.bool false)), none⟩] [0]) (.seq (.seq (.reg [⟨some 6, .mov (.t 0), none⟩,
 ⟨some 7, .len false (.t 6), none⟩,
 ⟨some 8, .cmp .gtr (.t 7) (.c (Go.Value.int Go.IntKind.i64 200)), none⟩] [0, 8]) (.cond (.t 8) (.seq (.reg [⟨some 2, .mov (.c (Go.Value.bool false)), none⟩] [2]) .ret) .skip)) (.seq (.reg [⟨some 3, .mov (.c (Go.Value.int Go.IntKind.i64 0)), none⟩] [0, 3]) (.seq (.seq (.reg [⟨some 9, .mov (.t 0), none⟩,
 ⟨some 10, .len false (.t 9), none⟩,
 ⟨some 11, .mov (.c (Go.Value.int Go.IntKind.i64 0)), none⟩] [3, 9, 10, 11]) (.block 0 (.opq 0 [3, 9, 10, 11] (.loop L_few_i0)))) (.seq (.reg [⟨some 33, .mov (.t 3), none⟩,
 ⟨some 34, .cmp .leq (.t 33) (.c (Go.Value.int Go.IntKind.i64 70000)), none⟩,
 ⟨some 2, .mov (.t 34), none⟩] [2]) .ret)))))⟩
theorem L_few_e2 {R : Type} (L_few_l0 : (Int → Heap → Option R) → Nat → Int → Option Addr → Nat → Nat → Int → Int → Heap → Option R) (L_few_p1 : Int → Option Addr → Nat → Nat → Int → Int → Heap → (Int → Option Addr → Nat → Nat → Int → Int → Heap → Option R) → Option R) (L_few_p2 : Int → Option Addr → Option Addr → Nat → Nat → Int → Int → Heap → (Int → Option Addr → Option Addr → Nat → Nat → Int → Int → Bool → Option R) → Option R) (k : Nat) (n26 : Int) (p27 : Option Addr) (q28 : Option Addr) (l29 : Nat) (c30 : Nat) (n31 : Int) (n32 : Int) (H : Heap) (K : Xit → Env → Heap → Option R) : evJ (L_few_Ct) (L_few_Jt k L_few_l0 L_few_p1 L_few_p2) L_few_i2 (List.zip [3, 5, 9, 10, 11] [.int .i64 n26, .pointer p27, .slice q28 l29 c30, .int .i64 n31, .int .i64 n32]) H (fun x e' H' => K x (clean e' ((⟨[3, 5, 9, 10, 11, 27], [], []⟩ : Out).of x)) H') = L_few_p2_b k n26 p27 q28 l29 c30 n31 n32 H (fun n954 p955 q956 l957 c958 n959 n960 t961 => K .normal [(3, .int .i64 n954), (5, .pointer p955), (9, .slice q956 l957 c958), (10, .int .i64 n959), (11, .int .i64 n960), (27, .bool t961)] H) := by kernel_rfl
theorem L_few_j2 {R : Type} (k : Nat) : JS Try.prog 35 (L_few_a2 R k k) [3, 5, 9, 10, 11] ⟨[3, 5, 9, 10, 11, 27], [], []⟩ (sel [1, 1, 1, 0, 1, 0, 0, 1, 1, 0, 0, 1, 0] (Try.f10.body.getD .skip)) :=
  piece_ok (nt := 35) (c := (sel [1, 1, 1, 0, 1, 0, 0, 1, 1, 0, 0, 1, 0] (Try.f10.body.getD .skip))) (C := L_few_C R k) (an := An) (t := (.reg [3, 5, 9, 10, 11, 27] [])) (ic := L_few_i2) (L_few_S R k) (L_few_J R k) (by kernel_rfl) True.intro (L_few_a2 R k k)
    (fun vals H K r h => by
      unfold L_few_a2 L_few_aa2 at h
      split at h <;> first | (cases h; done) | exact Eq.trans (L_few_e2 (L_few_l0 k) (L_few_p1 k) (L_few_p2 k) k _ _ _ _ _ _ _ H K) h)
theorem L_few_e1 {R : Type} (L_few_l0 : (Int → Heap → Option R) → Nat → Int → Option Addr → Nat → Nat → Int → Int → Heap → Option R) (L_few_p1 : Int → Option Addr → Nat → Nat → Int → Int → Heap → (Int → Option Addr → Nat → Nat → Int → Int → Heap → Option R) → Option R) (L_few_p2 : Int → Option Addr → Option Addr → Nat → Nat → Int → Int → Heap → (Int → Option Addr → Option Addr → Nat → Nat → Int → Int → Bool → Option R) → Option R) (k : Nat) (n13 : Int) (q14 : Option Addr) (l15 : Nat) (c16 : Nat) (n17 : Int) (n18 : Int) (H : Heap) (K : Xit → Env → Heap → Option R) : evJ (L_few_Ct) (L_few_Jt k L_few_l0 L_few_p1 L_few_p2) L_few_i1 (List.zip [3, 9, 10, 11] [.int .i64 n13, .slice q14 l15 c16, .int .i64 n17, .int .i64 n18]) H (fun x e' H' => K x (clean e' ((⟨[3, 9, 10, 11], [], []⟩ : Out).of x)) H') = L_few_p1_b L_few_p2 k n13 q14 l15 c16 n17 n18 H (fun n948 q949 l950 c951 n952 n953 H => K .normal [(3, .int .i64 n948), (9, .slice q949 l950 c951), (10, .int .i64 n952), (11, .int .i64 n953)] H) := by kernel_rfl
theorem L_few_j1 {R : Type} (k : Nat) : JS Try.prog 35 (L_few_a1 R k k) [3, 9, 10, 11] ⟨[3, 9, 10, 11], [], []⟩ (sel [1, 1, 1, 0, 1, 0, 0, 1, 1, 0] (Try.f10.body.getD .skip)) :=
  piece_ok (nt := 35) (c := (sel [1, 1, 1, 0, 1, 0, 0, 1, 1, 0] (Try.f10.body.getD .skip))) (C := L_few_C R k) (an := An) (t := (.node (.seq (.reg [3, 5, 9, 10, 11] []) (.seq (.opq 2 [3, 5, 9, 10, 11] ⟨[3, 5, 9, 10, 11, 27], [], []⟩ (.reg [3, 5, 9, 10, 11, 27] [])) (.cond (.reg [3, 9, 10, 11] []) .leaf))))) (ic := L_few_i1) (L_few_S R k) (L_few_J R k) (by kernel_rfl) (And.intro True.intro (And.intro (L_few_j2 k) (And.intro True.intro True.intro))) (L_few_a1 R k k)
    (fun vals H K r h => by
      unfold L_few_a1 L_few_aa1 at h
      split at h <;> first | (cases h; done) | exact Eq.trans (L_few_e1 (L_few_l0 k) (L_few_p1 k) (L_few_p2 k) k _ _ _ _ _ _ H K) h)
theorem L_few_e0 {R : Type} (L_few_l0 : (Int → Heap → Option R) → Nat → Int → Option Addr → Nat → Nat → Int → Int → Heap → Option R) (L_few_p1 : Int → Option Addr → Nat → Nat → Int → Int → Heap → (Int → Option Addr → Nat → Nat → Int → Int → Heap → Option R) → Option R) (L_few_p2 : Int → Option Addr → Option Addr → Nat → Nat → Int → Int → Heap → (Int → Option Addr → Option Addr → Nat → Nat → Int → Int → Bool → Option R) → Option R) (k n : Nat) (n7 : Int) (q8 : Option Addr) (l9 : Nat) (c10 : Nat) (n11 : Int) (n12 : Int) (H : Heap) (K : Xit → Env → Heap → Option R) : evJ (L_few_Ct) (L_few_Jt k L_few_l0 L_few_p1 L_few_p2) L_few_i0 (List.zip [3, 9, 10, 11] [.int .i64 n7, .slice q8 l9 c10, .int .i64 n11, .int .i64 n12]) H (fun x e' H' => match x with | .normal => L_few_aa0 L_few_l0 n ((clean e' [3, 9, 10, 11]).map (·.2)) H' K | x => K x (clean e' ((⟨[], [(0, [3])], []⟩ : Out).of x)) H') = L_few_l0_b L_few_p1 (L_few_l0 (fun n947 H => K (.exit 0) [(3, .int .i64 n947)] H) n) (fun n947 H => K (.exit 0) [(3, .int .i64 n947)] H) k n7 q8 l9 c10 n11 n12 H := by kernel_rfl
theorem L_few_j0 {R : Type} (k : Nat) : JS Try.prog 35 (L_few_a0 R k k) [3, 9, 10, 11] ⟨[], [(0, [3])], []⟩ (.loop (sel [1, 1, 1, 0, 1, 0, 0] (Try.f10.body.getD .skip))) :=
  loop_ok (nt := 35) (c := (sel [1, 1, 1, 0, 1, 0, 0] (Try.f10.body.getD .skip))) (C := L_few_C R k) (an := An) (t := (.seq (.reg [3, 9, 10, 11, 12] []) (.seq (.cond .leaf .leaf) (.seq (.opq 1 [3, 9, 10, 11] ⟨[3, 9, 10, 11], [], []⟩ (.node (.seq (.reg [3, 5, 9, 10, 11] []) (.seq (.opq 2 [3, 5, 9, 10, 11] ⟨[3, 5, 9, 10, 11, 27], [], []⟩ (.reg [3, 5, 9, 10, 11, 27] [])) (.cond (.reg [3, 9, 10, 11] []) .leaf))))) (.reg [3, 9, 10, 11] []))))) (ic := L_few_i0) (L_few_S R k) (L_few_J R k) (by kernel_rfl) (And.intro True.intro (And.intro (And.intro True.intro True.intro) (And.intro (L_few_j1 k) True.intro))) (L_few_a0 R k) (fun vals H K => by unfold L_few_a0 L_few_aa0; split <;> rfl)
    (fun n vals H K r h => by
      unfold L_few_a0 L_few_aa0 at h
      split at h <;> first | (cases h; done) | exact Eq.trans (L_few_e0 (L_few_l0 k) (L_few_p1 k) (L_few_p2 k) k n _ _ _ _ _ _ H K) h) k
def L_few_ca {R : Type} (f : Option Addr → Nat → Nat → Heap → (Bool → Heap → Option R) → Option R) (args : List Value) (H : Heap) (K : Value → Heap → Option R) : Option R :=
  match args with
  | [.slice q4 l5 c6] => f q4 l5 c6 H (fun t962 H => K (.bool t962) H)
  | _ => none
def L_few_c (R : Type) (k : Nat) (args : List Value) (H : Heap) (K : Value → Heap → Option R) : Option R := L_few_ca (L_few k) args H K
theorem L_few_e {R : Type} (L_few_l0 : (Int → Heap → Option R) → Nat → Int → Option Addr → Nat → Nat → Int → Int → Heap → Option R) (L_few_p1 : Int → Option Addr → Nat → Nat → Int → Int → Heap → (Int → Option Addr → Nat → Nat → Int → Int → Heap → Option R) → Option R) (L_few_p2 : Int → Option Addr → Option Addr → Nat → Nat → Int → Int → Heap → (Int → Option Addr → Option Addr → Nat → Nat → Int → Int → Bool → Option R) → Option R) (k : Nat) (q4 : Option Addr) (l5 : Nat) (c6 : Nat) (H : Heap) (K : Value → Heap → Option R) : evF (L_few_Ct) (L_few_Jt k L_few_l0 L_few_p1 L_few_p2) L_few_f [.slice q4 l5 c6] H K = L_few_b L_few_l0 k q4 l5 c6 H (fun t962 H => K (.bool t962) H) := by kernel_rfl
theorem L_few_cs (R : Type) (k : Nat) : ∀ args H K r, L_few_c R k args H K = some r → ∃ v H', Tri Try.prog 10 args H v H' ∧ K v H' = some r := by
  intro args H K r h
  unfold L_few_c L_few_ca at h
  split at h
  · exact evF_ok (C := L_few_C R k) (an := An) (t := L_few_at) (fn := Try.f10) (c := (Try.f10.body.getD .skip)) (ifn := L_few_f) (L_few_S R k) (L_few_J R k) Try.func10 (by kernel_rfl) (by kernel_rfl) (And.intro True.intro (And.intro (And.intro True.intro (And.intro (And.intro True.intro True.intro) True.intro)) (And.intro True.intro (And.intro (And.intro True.intro (L_few_j0 k)) (And.intro True.intro True.intro))))) rfl (Eq.trans (L_few_e (L_few_l0 k) (L_few_p1 k) (L_few_p2 k) k _ _ _ H K) h)
  · cases h
end Go.Proofs.Ytiapgcgpdndkiaa.Sh
