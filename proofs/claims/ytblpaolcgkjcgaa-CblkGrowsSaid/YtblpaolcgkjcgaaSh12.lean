/- Lean functions that stand for Go's, over an explicit heap, and the proofs that they do (written by this claim's program shallow.py). -/
import Derived.Test.YtblpaolcgkjcgaaSh0
import Derived.Test.YtblpaolcgkjcgaaSh2
import Derived.Test.YtblpaolcgkjcgaaSh4
set_option maxRecDepth 100000
set_option linter.unusedVariables false
set_option linter.unusedSimpArgs false
namespace Go.Proofs.Ytblpaolcgkjcgaa.Sh
open Go.Proofs.Ytblpaolcgkjcgaa.FW
/-! ### R14_Scan: function 13 -/
def R14_Scan_l2_b {R : Type} (rec : Int → Int → Option Addr → Nat → Nat → Int → Int → Int → Heap → Option R) (KE4 : Int → Int → Option Addr → Nat → Nat → Int → Int → Heap → Option R) (k : Nat) (n95 : Int) (n96 : Int) (q97 : Option Addr) (l98 : Nat) (c99 : Nat) (n100 : Int) (n101 : Int) (n102 : Int) (H : Heap) : Option R :=
bif decide (n102 < (imn (IntKind.wrap .i64 (n100 + 4)) n96)) then (hal H [.int .i64 n101, .int .i64 n102] fun p103 H104 =>
happS 2 16 H104 q97 l98 c99 p103 1 fun q105 l106 c107 H108 =>
rec n95 n96 q105 l106 c107 n100 n101 (IntKind.wrap .i64 (n102 + 1)) H108)
 else (KE4 n95 n96 q97 l98 c99 n100 n101 H)
def R14_Scan_l2 {R : Type} (k : Nat) (KE4 : Int → Int → Option Addr → Nat → Nat → Int → Int → Heap → Option R) : Nat → Int → Int → Option Addr → Nat → Nat → Int → Int → Int → Heap → Option R
  | 0, _, _, _, _, _, _, _, _, _ => none
  | n + 1, n95, n96, q97, l98, c99, n100, n101, n102, H => R14_Scan_l2_b (R14_Scan_l2 k KE4 n) KE4 k n95 n96 q97 l98 c99 n100 n101 n102 H

def R14_Scan_l1_b {R : Type} (R14_Scan_l2 : (Int → Int → Option Addr → Nat → Nat → Int → Int → Heap → Option R) → Nat → Int → Int → Option Addr → Nat → Nat → Int → Int → Int → Heap → Option R) (rec : Int → Int → Option Addr → Nat → Nat → Int → Int → Heap → Option R) (KE2 : Int → Int → Option Addr → Nat → Nat → Int → Heap → Option R) (k : Nat) (n88 : Int) (n89 : Int) (q90 : Option Addr) (l91 : Nat) (c92 : Nat) (n93 : Int) (n94 : Int) (H : Heap) : Option R :=
bif decide (n94 < n88) then (R14_Scan_l2 (fun n116 n117 q118 l119 c120 n121 n122 H123 =>
rec n116 n117 q118 l119 c120 n121 (IntKind.wrap .i64 (n122 + 1)) H123) k n88 n89 q90 l91 c92 n93 n94 n93 H)
 else (KE2 n88 n89 q90 l91 c92 n93 H)
def R14_Scan_l1 {R : Type} (k : Nat) (KE2 : Int → Int → Option Addr → Nat → Nat → Int → Heap → Option R) : Nat → Int → Int → Option Addr → Nat → Nat → Int → Int → Heap → Option R
  | 0, _, _, _, _, _, _, _, _ => none
  | n + 1, n88, n89, q90, l91, c92, n93, n94, H => R14_Scan_l1_b (R14_Scan_l2 k) (R14_Scan_l1 k KE2 n) KE2 k n88 n89 q90 l91 c92 n93 n94 H

def R14_Scan_l0_b {R : Type} (R14_Scan_l1 : (Int → Int → Option Addr → Nat → Nat → Int → Heap → Option R) → Nat → Int → Int → Option Addr → Nat → Nat → Int → Int → Heap → Option R) (rec : Int → Int → Option Addr → Nat → Nat → Int → Heap → Option R) (KE0 : Option Addr → Nat → Nat → Heap → Option R) (k : Nat) (n82 : Int) (n83 : Int) (q84 : Option Addr) (l85 : Nat) (c86 : Nat) (n87 : Int) (H : Heap) : Option R :=
bif decide (n87 < n83) then (R14_Scan_l1 (fun n130 n131 q132 l133 c134 n135 H136 =>
rec n130 n131 q132 l133 c134 (IntKind.wrap .i64 (n135 + 4)) H136) k n82 n83 q84 l85 c86 n87 0 H)
 else (KE0 q84 l85 c86 H)
def R14_Scan_l0 {R : Type} (k : Nat) (KE0 : Option Addr → Nat → Nat → Heap → Option R) : Nat → Int → Int → Option Addr → Nat → Nat → Int → Heap → Option R
  | 0, _, _, _, _, _, _, _ => none
  | n + 1, n82, n83, q84, l85, c86, n87, H => R14_Scan_l0_b (R14_Scan_l1 k) (R14_Scan_l0 k KE0 n) KE0 k n82 n83 q84 l85 c86 n87 H

def R14_Scan_b {R : Type} (R14_ValidSize : Int → Int → (Bool → Option R) → Option R) (R14_Scan_l0 : (Option Addr → Nat → Nat → Heap → Option R) → Nat → Int → Int → Option Addr → Nat → Nat → Int → Heap → Option R) (k : Nat) (n79 : Int) (n80 : Int) (H : Heap) (K : Option Addr → Nat → Nat → Heap → Option R) : Option R :=
R14_ValidSize n79 n80 fun t81 =>
bif (!t81) then (K none 0 0 H)
 else (R14_Scan_l0 (fun q140 l141 c142 H143 =>
K q140 l141 c142 H143) k n79 n80 none 0 0 0 H)

def R14_Scan {R : Type} (k : Nat) (n79 : Int) (n80 : Int) (H : Heap) (K : Option Addr → Nat → Nat → Heap → Option R) : Option R := R14_Scan_b R14_ValidSize (R14_Scan_l0 k) k n79 n80 H K

def R14_Scan_Ct {R : Type} (R14_ValidSize : Int → Int → (Bool → Option R) → Option R) : Tab R := tcons 41 (R14_ValidSize_ca R14_ValidSize) <| fun _ _ _ _ => none
def R14_Scan_C (R : Type) (k : Nat) : Tab R := R14_Scan_Ct R14_ValidSize
theorem R14_Scan_S (R : Type) (k : Nat) : CSound Try.prog (R14_Scan_C R k) := csound_cons (R14_ValidSize_cs R k) <| csound_nil
def R14_Scan_aa0 {R : Type} (f : (Option Addr → Nat → Nat → Heap → Option R) → Nat → Int → Int → Option Addr → Nat → Nat → Int → Heap → Option R) (n : Nat) (vals : List Value) (H : Heap) (K : Xit → Env → Heap → Option R) : Option R :=
  match vals with
  | [.int .i64 n82, .int .i64 n83, .slice q84 l85 c86, .int .i64 n87] => f (fun q1203 l1204 c1205 H => K (.exit 0) [(5, .slice q1203 l1204 c1205)] H) n n82 n83 q84 l85 c86 n87 H
  | _ => none
def R14_Scan_a0 (R : Type) (k n : Nat) (vals : List Value) (H : Heap) (K : Xit → Env → Heap → Option R) : Option R := R14_Scan_aa0 (R14_Scan_l0 k) n vals H K
def R14_Scan_aa1 {R : Type} (f : (Int → Int → Option Addr → Nat → Nat → Int → Heap → Option R) → Nat → Int → Int → Option Addr → Nat → Nat → Int → Int → Heap → Option R) (n : Nat) (vals : List Value) (H : Heap) (K : Xit → Env → Heap → Option R) : Option R :=
  match vals with
  | [.int .i64 n88, .int .i64 n89, .slice q90 l91 c92, .int .i64 n93, .int .i64 n94] => f (fun n1206 n1207 q1208 l1209 c1210 n1211 H => K (.exit 2) [(0, .int .i64 n1206), (1, .int .i64 n1207), (5, .slice q1208 l1209 c1210), (6, .int .i64 n1211)] H) n n88 n89 q90 l91 c92 n93 n94 H
  | _ => none
def R14_Scan_a1 (R : Type) (k n : Nat) (vals : List Value) (H : Heap) (K : Xit → Env → Heap → Option R) : Option R := R14_Scan_aa1 (R14_Scan_l1 k) n vals H K
def R14_Scan_aa2 {R : Type} (f : (Int → Int → Option Addr → Nat → Nat → Int → Int → Heap → Option R) → Nat → Int → Int → Option Addr → Nat → Nat → Int → Int → Int → Heap → Option R) (n : Nat) (vals : List Value) (H : Heap) (K : Xit → Env → Heap → Option R) : Option R :=
  match vals with
  | [.int .i64 n95, .int .i64 n96, .slice q97 l98 c99, .int .i64 n100, .int .i64 n101, .int .i64 n102] => f (fun n1212 n1213 q1214 l1215 c1216 n1217 n1218 H => K (.exit 4) [(0, .int .i64 n1212), (1, .int .i64 n1213), (5, .slice q1214 l1215 c1216), (6, .int .i64 n1217), (7, .int .i64 n1218)] H) n n95 n96 q97 l98 c99 n100 n101 n102 H
  | _ => none
def R14_Scan_a2 (R : Type) (k n : Nat) (vals : List Value) (H : Heap) (K : Xit → Env → Heap → Option R) : Option R := R14_Scan_aa2 (R14_Scan_l2 k) n vals H K
def R14_Scan_Jt {R : Type} (k : Nat) (R14_Scan_l0 : (Option Addr → Nat → Nat → Heap → Option R) → Nat → Int → Int → Option Addr → Nat → Nat → Int → Heap → Option R) (R14_Scan_l1 : (Int → Int → Option Addr → Nat → Nat → Int → Heap → Option R) → Nat → Int → Int → Option Addr → Nat → Nat → Int → Int → Heap → Option R) (R14_Scan_l2 : (Int → Int → Option Addr → Nat → Nat → Int → Int → Heap → Option R) → Nat → Int → Int → Option Addr → Nat → Nat → Int → Int → Int → Heap → Option R) : JTab R := tcons 0 (R14_Scan_aa0 R14_Scan_l0 k) <| tcons 1 (R14_Scan_aa1 R14_Scan_l1 k) <| tcons 2 (R14_Scan_aa2 R14_Scan_l2 k) <| fun _ _ _ _ => none
def R14_Scan_J (R : Type) (k : Nat) : JTab R := R14_Scan_Jt k (R14_Scan_l0 k) (R14_Scan_l1 k) (R14_Scan_l2 k)
def R14_Scan_at : AT := (.seq (.reg [0, 1] []) (.seq (.seq (.reg [0, 1, 12] []) (.cond (.seq (.reg [4] []) .leaf) .leaf)) (.seq (.reg [0, 1, 5] []) (.seq (.seq (.reg [0, 1, 5, 6] []) (.node (.opq 0 [0, 1, 5, 6] ⟨[], [(0, [5])], []⟩ (.node (.seq (.seq (.reg [0, 1, 5, 6, 15] []) (.cond .leaf .leaf)) (.seq (.node (.seq (.reg [0, 1, 5, 6, 7] []) (.node (.opq 1 [0, 1, 5, 6, 7] ⟨[], [(2, [0, 1, 5, 6])], []⟩ (.node (.seq (.seq (.reg [0, 1, 5, 6, 7, 20] []) (.cond .leaf .leaf)) (.seq (.node (.seq (.reg [0, 1, 5, 6, 7, 8] []) (.node (.opq 2 [0, 1, 5, 6, 7, 8] ⟨[], [(4, [0, 1, 5, 6, 7])], []⟩ (.node (.seq (.seq (.reg [0, 1, 5, 6, 7, 8, 29] []) (.cond .leaf .leaf)) (.seq (.node (.reg [0, 1, 5, 6, 7, 8] [])) (.reg [0, 1, 5, 6, 7, 8] [])))))))) (.reg [0, 1, 5, 6, 7] [])))))))) (.reg [0, 1, 5, 6] []))))))) (.seq (.reg [4] []) .leaf)))))
def R14_Scan_i2 : IC := (.seq (.seq (.reg [⟨some 24, .mov (.t 8), none⟩,
 ⟨some 25, .mov (.t 6), none⟩,
 ⟨some 26, .bin .add .i64 (.t 25) (.c (Go.Value.int Go.IntKind.i64 4)), none⟩,
 ⟨some 27, .mov (.t 1), none⟩,
 ⟨some 28, .mn (.t 26) (.t 27), none⟩,
 ⟨some 29, .cmp .lss (.t 24) (.t 28), none⟩] [0, 1, 5, 6, 7, 8, 29]) (.cond (.t 29) .skip (.exit 4))) (.seq (.block 5 (.reg [⟨some 32, .mov (.t 5), none⟩,
 ⟨some 33, .mov (.t 7), none⟩,
 ⟨some 34, .mov (.t 8), none⟩,
 ⟨some 35, .bld [.int .i64 0, .int .i64 0] [(0, 1, (.t 33)), (1, 1, (.t 34))], none⟩,
 ⟨some 36, .bls 1 [.int .i64 0, .int .i64 0] [(0, 2, (.t 35))], none⟩,
 ⟨some 37, .app [.int .i64 0, .int .i64 0] 16 (.t 32) (.t 36), none⟩,
 ⟨some 5, .mov (.t 37), none⟩] [0, 1, 5, 6, 7, 8])) (.reg [⟨some 30, .mov (.t 8), none⟩,
 ⟨some 31, .bin .add .i64 (.t 30) (.c (Go.Value.int Go.IntKind.i64 1)), none⟩,
 ⟨some 8, .mov (.t 31), none⟩] [0, 1, 5, 6, 7, 8])))
def R14_Scan_i1 : IC := (.seq (.seq (.reg [⟨some 18, .mov (.t 7), none⟩,
 ⟨some 19, .mov (.t 0), none⟩,
 ⟨some 20, .cmp .lss (.t 18) (.t 19), none⟩] [0, 1, 5, 6, 7, 20]) (.cond (.t 20) .skip (.exit 2))) (.seq (.block 3 (.seq (.reg [⟨some 23, .mov (.t 6), none⟩,
 ⟨some 8, .mov (.t 23), none⟩] [0, 1, 5, 6, 7, 8]) (.block 4 (.opq 2 [0, 1, 5, 6, 7, 8] (.loop R14_Scan_i2))))) (.reg [⟨some 21, .mov (.t 7), none⟩,
 ⟨some 22, .bin .add .i64 (.t 21) (.c (Go.Value.int Go.IntKind.i64 1)), none⟩,
 ⟨some 7, .mov (.t 22), none⟩] [0, 1, 5, 6, 7])))
def R14_Scan_i0 : IC := (.seq (.seq (.reg [⟨some 13, .mov (.t 6), none⟩,
 ⟨some 14, .mov (.t 1), none⟩,
 ⟨some 15, .cmp .lss (.t 13) (.t 14), none⟩] [0, 1, 5, 6, 15]) (.cond (.t 15) .skip (.exit 0))) (.seq (.block 1 (.seq (.reg [⟨some 7, .mov (.c (Go.Value.int Go.IntKind.i64 0)), none⟩] [0, 1, 5, 6, 7]) (.block 2 (.opq 1 [0, 1, 5, 6, 7] (.loop R14_Scan_i1))))) (.reg [⟨some 16, .mov (.t 6), none⟩,
 ⟨some 17, .bin .add .i64 (.t 16) (.c (Go.Value.int Go.IntKind.i64 4)), none⟩,
 ⟨some 6, .mov (.t 17), none⟩] [0, 1, 5, 6])))
def R14_Scan_f : IFn := ⟨39, [.t 4], (.seq (.reg [⟨some 4, .mov (.c (Go.Value.slice none 0 0)), none⟩] [0, 1]) (.seq (.seq (.reg [⟨some 9, .mov (.t 0), none⟩,
 ⟨some 10, .mov (.t 1), none⟩,
 ⟨some 11, .call 41 [(.t 9), (.t 10)] (.one (.sc .bool)), none⟩,
 ⟨some 12, .lnot (.t 11), none⟩] [0, 1, 12]) (.cond (.t 12) (.seq (.reg [⟨some 4, .mov (.c (Go.Value.slice none 0 0)), none⟩] [4]) .ret) .skip)) (.seq (.reg [⟨some 5, .mov (.c (Go.Value.slice none 0 0)), none⟩] [0, 1, 5]) (.seq (.seq (.reg [⟨some 6, .mov (.c (Go.Value.int Go.IntKind.i64 0)), none⟩] [0, 1, 5, 6]) (.block 0 (.opq 0 [0, 1, 5, 6] (.loop R14_Scan_i0)))) (.seq (.reg [⟨some 38, .mov (.t 5), none⟩,
 ⟨some 4, .mov (.t 38), none⟩] [4]) .ret)))))⟩
theorem R14_Scan_e2 {R : Type} (R14_ValidSize : Int → Int → (Bool → Option R) → Option R) (R14_Scan_l0 : (Option Addr → Nat → Nat → Heap → Option R) → Nat → Int → Int → Option Addr → Nat → Nat → Int → Heap → Option R) (R14_Scan_l1 : (Int → Int → Option Addr → Nat → Nat → Int → Heap → Option R) → Nat → Int → Int → Option Addr → Nat → Nat → Int → Int → Heap → Option R) (R14_Scan_l2 : (Int → Int → Option Addr → Nat → Nat → Int → Int → Heap → Option R) → Nat → Int → Int → Option Addr → Nat → Nat → Int → Int → Int → Heap → Option R) (k n : Nat) (n95 : Int) (n96 : Int) (q97 : Option Addr) (l98 : Nat) (c99 : Nat) (n100 : Int) (n101 : Int) (n102 : Int) (H : Heap) (K : Xit → Env → Heap → Option R) : evJ (R14_Scan_Ct R14_ValidSize) (R14_Scan_Jt k R14_Scan_l0 R14_Scan_l1 R14_Scan_l2) R14_Scan_i2 (List.zip [0, 1, 5, 6, 7, 8] [.int .i64 n95, .int .i64 n96, .slice q97 l98 c99, .int .i64 n100, .int .i64 n101, .int .i64 n102]) H (fun x e' H' => match x with | .normal => R14_Scan_aa2 R14_Scan_l2 n ((clean e' [0, 1, 5, 6, 7, 8]).map (·.2)) H' K | x => K x (clean e' ((⟨[], [(4, [0, 1, 5, 6, 7])], []⟩ : Out).of x)) H') = R14_Scan_l2_b (R14_Scan_l2 (fun n1212 n1213 q1214 l1215 c1216 n1217 n1218 H => K (.exit 4) [(0, .int .i64 n1212), (1, .int .i64 n1213), (5, .slice q1214 l1215 c1216), (6, .int .i64 n1217), (7, .int .i64 n1218)] H) n) (fun n1212 n1213 q1214 l1215 c1216 n1217 n1218 H => K (.exit 4) [(0, .int .i64 n1212), (1, .int .i64 n1213), (5, .slice q1214 l1215 c1216), (6, .int .i64 n1217), (7, .int .i64 n1218)] H) k n95 n96 q97 l98 c99 n100 n101 n102 H := by kernel_rfl
theorem R14_Scan_j2 {R : Type} (k : Nat) : JS Try.prog 39 (R14_Scan_a2 R k k) [0, 1, 5, 6, 7, 8] ⟨[], [(4, [0, 1, 5, 6, 7])], []⟩ (.loop (sel [1, 1, 1, 0, 1, 0, 0, 1, 0, 0, 1, 0, 0, 1, 0, 0, 1, 0, 0] (Try.f13.body.getD .skip))) :=
  loop_ok (nt := 39) (c := (sel [1, 1, 1, 0, 1, 0, 0, 1, 0, 0, 1, 0, 0, 1, 0, 0, 1, 0, 0] (Try.f13.body.getD .skip))) (C := R14_Scan_C R k) (an := An) (t := (.seq (.seq (.reg [0, 1, 5, 6, 7, 8, 29] []) (.cond .leaf .leaf)) (.seq (.node (.reg [0, 1, 5, 6, 7, 8] [])) (.reg [0, 1, 5, 6, 7, 8] [])))) (ic := R14_Scan_i2) (R14_Scan_S R k) (R14_Scan_J R k) (by kernel_rfl) (And.intro (And.intro True.intro (And.intro True.intro True.intro)) (And.intro True.intro True.intro)) (R14_Scan_a2 R k) (fun vals H K => by unfold R14_Scan_a2 R14_Scan_aa2; split <;> rfl)
    (fun n vals H K r h => by
      unfold R14_Scan_a2 R14_Scan_aa2 at h
      split at h <;> first | (cases h; done) | exact Eq.trans (R14_Scan_e2 R14_ValidSize (R14_Scan_l0 k) (R14_Scan_l1 k) (R14_Scan_l2 k) k n _ _ _ _ _ _ _ _ H K) h) k
theorem R14_Scan_e1 {R : Type} (R14_ValidSize : Int → Int → (Bool → Option R) → Option R) (R14_Scan_l0 : (Option Addr → Nat → Nat → Heap → Option R) → Nat → Int → Int → Option Addr → Nat → Nat → Int → Heap → Option R) (R14_Scan_l1 : (Int → Int → Option Addr → Nat → Nat → Int → Heap → Option R) → Nat → Int → Int → Option Addr → Nat → Nat → Int → Int → Heap → Option R) (R14_Scan_l2 : (Int → Int → Option Addr → Nat → Nat → Int → Int → Heap → Option R) → Nat → Int → Int → Option Addr → Nat → Nat → Int → Int → Int → Heap → Option R) (k n : Nat) (n88 : Int) (n89 : Int) (q90 : Option Addr) (l91 : Nat) (c92 : Nat) (n93 : Int) (n94 : Int) (H : Heap) (K : Xit → Env → Heap → Option R) : evJ (R14_Scan_Ct R14_ValidSize) (R14_Scan_Jt k R14_Scan_l0 R14_Scan_l1 R14_Scan_l2) R14_Scan_i1 (List.zip [0, 1, 5, 6, 7] [.int .i64 n88, .int .i64 n89, .slice q90 l91 c92, .int .i64 n93, .int .i64 n94]) H (fun x e' H' => match x with | .normal => R14_Scan_aa1 R14_Scan_l1 n ((clean e' [0, 1, 5, 6, 7]).map (·.2)) H' K | x => K x (clean e' ((⟨[], [(2, [0, 1, 5, 6])], []⟩ : Out).of x)) H') = R14_Scan_l1_b R14_Scan_l2 (R14_Scan_l1 (fun n1206 n1207 q1208 l1209 c1210 n1211 H => K (.exit 2) [(0, .int .i64 n1206), (1, .int .i64 n1207), (5, .slice q1208 l1209 c1210), (6, .int .i64 n1211)] H) n) (fun n1206 n1207 q1208 l1209 c1210 n1211 H => K (.exit 2) [(0, .int .i64 n1206), (1, .int .i64 n1207), (5, .slice q1208 l1209 c1210), (6, .int .i64 n1211)] H) k n88 n89 q90 l91 c92 n93 n94 H := by kernel_rfl
theorem R14_Scan_j1 {R : Type} (k : Nat) : JS Try.prog 39 (R14_Scan_a1 R k k) [0, 1, 5, 6, 7] ⟨[], [(2, [0, 1, 5, 6])], []⟩ (.loop (sel [1, 1, 1, 0, 1, 0, 0, 1, 0, 0, 1, 0, 0] (Try.f13.body.getD .skip))) :=
  loop_ok (nt := 39) (c := (sel [1, 1, 1, 0, 1, 0, 0, 1, 0, 0, 1, 0, 0] (Try.f13.body.getD .skip))) (C := R14_Scan_C R k) (an := An) (t := (.seq (.seq (.reg [0, 1, 5, 6, 7, 20] []) (.cond .leaf .leaf)) (.seq (.node (.seq (.reg [0, 1, 5, 6, 7, 8] []) (.node (.opq 2 [0, 1, 5, 6, 7, 8] ⟨[], [(4, [0, 1, 5, 6, 7])], []⟩ (.node (.seq (.seq (.reg [0, 1, 5, 6, 7, 8, 29] []) (.cond .leaf .leaf)) (.seq (.node (.reg [0, 1, 5, 6, 7, 8] [])) (.reg [0, 1, 5, 6, 7, 8] [])))))))) (.reg [0, 1, 5, 6, 7] [])))) (ic := R14_Scan_i1) (R14_Scan_S R k) (R14_Scan_J R k) (by kernel_rfl) (And.intro (And.intro True.intro (And.intro True.intro True.intro)) (And.intro (And.intro True.intro (R14_Scan_j2 k)) True.intro)) (R14_Scan_a1 R k) (fun vals H K => by unfold R14_Scan_a1 R14_Scan_aa1; split <;> rfl)
    (fun n vals H K r h => by
      unfold R14_Scan_a1 R14_Scan_aa1 at h
      split at h <;> first | (cases h; done) | exact Eq.trans (R14_Scan_e1 R14_ValidSize (R14_Scan_l0 k) (R14_Scan_l1 k) (R14_Scan_l2 k) k n _ _ _ _ _ _ _ H K) h) k
theorem R14_Scan_e0 {R : Type} (R14_ValidSize : Int → Int → (Bool → Option R) → Option R) (R14_Scan_l0 : (Option Addr → Nat → Nat → Heap → Option R) → Nat → Int → Int → Option Addr → Nat → Nat → Int → Heap → Option R) (R14_Scan_l1 : (Int → Int → Option Addr → Nat → Nat → Int → Heap → Option R) → Nat → Int → Int → Option Addr → Nat → Nat → Int → Int → Heap → Option R) (R14_Scan_l2 : (Int → Int → Option Addr → Nat → Nat → Int → Int → Heap → Option R) → Nat → Int → Int → Option Addr → Nat → Nat → Int → Int → Int → Heap → Option R) (k n : Nat) (n82 : Int) (n83 : Int) (q84 : Option Addr) (l85 : Nat) (c86 : Nat) (n87 : Int) (H : Heap) (K : Xit → Env → Heap → Option R) : evJ (R14_Scan_Ct R14_ValidSize) (R14_Scan_Jt k R14_Scan_l0 R14_Scan_l1 R14_Scan_l2) R14_Scan_i0 (List.zip [0, 1, 5, 6] [.int .i64 n82, .int .i64 n83, .slice q84 l85 c86, .int .i64 n87]) H (fun x e' H' => match x with | .normal => R14_Scan_aa0 R14_Scan_l0 n ((clean e' [0, 1, 5, 6]).map (·.2)) H' K | x => K x (clean e' ((⟨[], [(0, [5])], []⟩ : Out).of x)) H') = R14_Scan_l0_b R14_Scan_l1 (R14_Scan_l0 (fun q1203 l1204 c1205 H => K (.exit 0) [(5, .slice q1203 l1204 c1205)] H) n) (fun q1203 l1204 c1205 H => K (.exit 0) [(5, .slice q1203 l1204 c1205)] H) k n82 n83 q84 l85 c86 n87 H := by kernel_rfl
theorem R14_Scan_j0 {R : Type} (k : Nat) : JS Try.prog 39 (R14_Scan_a0 R k k) [0, 1, 5, 6] ⟨[], [(0, [5])], []⟩ (.loop (sel [1, 1, 1, 0, 1, 0, 0] (Try.f13.body.getD .skip))) :=
  loop_ok (nt := 39) (c := (sel [1, 1, 1, 0, 1, 0, 0] (Try.f13.body.getD .skip))) (C := R14_Scan_C R k) (an := An) (t := (.seq (.seq (.reg [0, 1, 5, 6, 15] []) (.cond .leaf .leaf)) (.seq (.node (.seq (.reg [0, 1, 5, 6, 7] []) (.node (.opq 1 [0, 1, 5, 6, 7] ⟨[], [(2, [0, 1, 5, 6])], []⟩ (.node (.seq (.seq (.reg [0, 1, 5, 6, 7, 20] []) (.cond .leaf .leaf)) (.seq (.node (.seq (.reg [0, 1, 5, 6, 7, 8] []) (.node (.opq 2 [0, 1, 5, 6, 7, 8] ⟨[], [(4, [0, 1, 5, 6, 7])], []⟩ (.node (.seq (.seq (.reg [0, 1, 5, 6, 7, 8, 29] []) (.cond .leaf .leaf)) (.seq (.node (.reg [0, 1, 5, 6, 7, 8] [])) (.reg [0, 1, 5, 6, 7, 8] [])))))))) (.reg [0, 1, 5, 6, 7] [])))))))) (.reg [0, 1, 5, 6] [])))) (ic := R14_Scan_i0) (R14_Scan_S R k) (R14_Scan_J R k) (by kernel_rfl) (And.intro (And.intro True.intro (And.intro True.intro True.intro)) (And.intro (And.intro True.intro (R14_Scan_j1 k)) True.intro)) (R14_Scan_a0 R k) (fun vals H K => by unfold R14_Scan_a0 R14_Scan_aa0; split <;> rfl)
    (fun n vals H K r h => by
      unfold R14_Scan_a0 R14_Scan_aa0 at h
      split at h <;> first | (cases h; done) | exact Eq.trans (R14_Scan_e0 R14_ValidSize (R14_Scan_l0 k) (R14_Scan_l1 k) (R14_Scan_l2 k) k n _ _ _ _ _ _ H K) h) k
def R14_Scan_ca {R : Type} (f : Int → Int → Heap → (Option Addr → Nat → Nat → Heap → Option R) → Option R) (args : List Value) (H : Heap) (K : Value → Heap → Option R) : Option R :=
  match args with
  | [.int .i64 n79, .int .i64 n80] => f n79 n80 H (fun q1219 l1220 c1221 H => K (.slice q1219 l1220 c1221) H)
  | _ => none
def R14_Scan_c (R : Type) (k : Nat) (args : List Value) (H : Heap) (K : Value → Heap → Option R) : Option R := R14_Scan_ca (R14_Scan k) args H K
theorem R14_Scan_e {R : Type} (R14_ValidSize : Int → Int → (Bool → Option R) → Option R) (R14_Scan_l0 : (Option Addr → Nat → Nat → Heap → Option R) → Nat → Int → Int → Option Addr → Nat → Nat → Int → Heap → Option R) (R14_Scan_l1 : (Int → Int → Option Addr → Nat → Nat → Int → Heap → Option R) → Nat → Int → Int → Option Addr → Nat → Nat → Int → Int → Heap → Option R) (R14_Scan_l2 : (Int → Int → Option Addr → Nat → Nat → Int → Int → Heap → Option R) → Nat → Int → Int → Option Addr → Nat → Nat → Int → Int → Int → Heap → Option R) (k : Nat) (n79 : Int) (n80 : Int) (H : Heap) (K : Value → Heap → Option R) : evF (R14_Scan_Ct R14_ValidSize) (R14_Scan_Jt k R14_Scan_l0 R14_Scan_l1 R14_Scan_l2) R14_Scan_f [.int .i64 n79, .int .i64 n80] H K = R14_Scan_b R14_ValidSize R14_Scan_l0 k n79 n80 H (fun q1219 l1220 c1221 H => K (.slice q1219 l1220 c1221) H) := by kernel_rfl
theorem R14_Scan_cs (R : Type) (k : Nat) : ∀ args H K r, R14_Scan_c R k args H K = some r → ∃ v H', Tri Try.prog 13 args H v H' ∧ K v H' = some r := by
  intro args H K r h
  unfold R14_Scan_c R14_Scan_ca at h
  split at h
  · exact evF_ok (C := R14_Scan_C R k) (an := An) (t := R14_Scan_at) (fn := Try.f13) (c := (Try.f13.body.getD .skip)) (ifn := R14_Scan_f) (R14_Scan_S R k) (R14_Scan_J R k) Try.func13 (by kernel_rfl) (by kernel_rfl) (And.intro True.intro (And.intro (And.intro True.intro (And.intro (And.intro True.intro True.intro) True.intro)) (And.intro True.intro (And.intro (And.intro True.intro (R14_Scan_j0 k)) (And.intro True.intro True.intro))))) rfl (Eq.trans (R14_Scan_e R14_ValidSize (R14_Scan_l0 k) (R14_Scan_l1 k) (R14_Scan_l2 k) k _ _ H K) h)
  · cases h
/-! ### R14_SamePoints: function 11 -/
def R14_SamePoints_l0_b {R : Type} (rec : Option Addr → Nat → Nat → Option Addr → Nat → Nat → Int → Heap → Option R) (KE0 : Unit → Option R) (KR : Bool → Option R) (k : Nat) (q157 : Option Addr) (l158 : Nat) (c159 : Nat) (q160 : Option Addr) (l161 : Nat) (c162 : Nat) (n163 : Int) (H : Heap) : Option R :=
bif decide (n163 < ((l158 : Nat) : Int)) then (hidx q157 l158 n163 2 fun p164 =>
ldI .i64 H (pad p164 0) fun n165 =>
ldI .i64 H (pad p164 1) fun n166 =>
hidx q160 l161 n163 2 fun p167 =>
ldI .i64 H (pad p167 0) fun n168 =>
ldI .i64 H (pad p167 1) fun n169 =>
bif (!((true && (n165 == n168)) && (n166 == n169))) then (KR false)
 else (rec q157 l158 c159 q160 l161 c162 (IntKind.wrap .i64 (n163 + 1)) H))
 else (KE0 ())
def R14_SamePoints_l0 {R : Type} (k : Nat) (KE0 : Unit → Option R) (KR : Bool → Option R) : Nat → Option Addr → Nat → Nat → Option Addr → Nat → Nat → Int → Heap → Option R
  | 0, _, _, _, _, _, _, _, _ => none
  | n + 1, q157, l158, c159, q160, l161, c162, n163, H => R14_SamePoints_l0_b (R14_SamePoints_l0 k KE0 KR n) KE0 KR k q157 l158 c159 q160 l161 c162 n163 H

def R14_SamePoints_b {R : Type} (R14_SamePoints_l0 : (Unit → Option R) → (Bool → Option R) → Nat → Option Addr → Nat → Nat → Option Addr → Nat → Nat → Int → Heap → Option R) (k : Nat) (q151 : Option Addr) (l152 : Nat) (c153 : Nat) (q154 : Option Addr) (l155 : Nat) (c156 : Nat) (H : Heap) (K : Bool → Option R) : Option R :=
bif (((l152 : Nat) : Int) != ((l155 : Nat) : Int)) then (K false)
 else (R14_SamePoints_l0 (fun (_ : Unit) =>
K true) (fun t171 =>
K t171) k q151 l152 c153 q154 l155 c156 0 H)

def R14_SamePoints {R : Type} (k : Nat) (q151 : Option Addr) (l152 : Nat) (c153 : Nat) (q154 : Option Addr) (l155 : Nat) (c156 : Nat) (H : Heap) (K : Bool → Option R) : Option R := R14_SamePoints_b (R14_SamePoints_l0 k) k q151 l152 c153 q154 l155 c156 H K

def R14_SamePoints_Ct {R : Type} : Tab R := fun _ _ _ _ => none
def R14_SamePoints_C (R : Type) (k : Nat) : Tab R := R14_SamePoints_Ct
theorem R14_SamePoints_S (R : Type) (k : Nat) : CSound Try.prog (R14_SamePoints_C R k) := csound_nil
def R14_SamePoints_aa0 {R : Type} (f : (Unit → Option R) → (Bool → Option R) → Nat → Option Addr → Nat → Nat → Option Addr → Nat → Nat → Int → Heap → Option R) (n : Nat) (vals : List Value) (H : Heap) (K : Xit → Env → Heap → Option R) : Option R :=
  match vals with
  | [.slice q157 l158 c159, .slice q160 l161 c162, .int .i64 n163] => f (fun _ => K (.exit 0) [] H) (fun t1222 => K .ret [(4, .bool t1222)] H) n q157 l158 c159 q160 l161 c162 n163 H
  | _ => none
def R14_SamePoints_a0 (R : Type) (k n : Nat) (vals : List Value) (H : Heap) (K : Xit → Env → Heap → Option R) : Option R := R14_SamePoints_aa0 (R14_SamePoints_l0 k) n vals H K
def R14_SamePoints_Jt {R : Type} (k : Nat) (R14_SamePoints_l0 : (Unit → Option R) → (Bool → Option R) → Nat → Option Addr → Nat → Nat → Option Addr → Nat → Nat → Int → Heap → Option R) : JTab R := tcons 0 (R14_SamePoints_aa0 R14_SamePoints_l0 k) <| fun _ _ _ _ => none
def R14_SamePoints_J (R : Type) (k : Nat) : JTab R := R14_SamePoints_Jt k (R14_SamePoints_l0 k)
def R14_SamePoints_at : AT := (.seq (.reg [0, 1] []) (.seq (.seq (.reg [0, 1, 10] []) (.cond (.seq (.reg [4] []) .leaf) .leaf)) (.seq (.seq (.reg [0, 1, 5] []) (.node (.opq 0 [0, 1, 5] ⟨[], [(0, [])], [4]⟩ (.node (.seq (.seq (.reg [0, 1, 5, 14] []) (.cond .leaf .leaf)) (.seq (.node (.seq (.reg [0, 1, 5, 25] [[], [], [0, 1], [0, 1, 2], [], [], [4, 5], [4, 5, 6], [0, 1, 2, 3, 4, 5, 6, 7]]) (.cond (.seq (.reg [4] []) .leaf) .leaf))) (.reg [0, 1, 5] []))))))) (.seq (.reg [4] []) .leaf))))
def R14_SamePoints_i0 : IC := (.seq (.seq (.reg [⟨some 11, .mov (.t 5), none⟩,
 ⟨some 12, .mov (.t 0), none⟩,
 ⟨some 13, .len false (.t 12), none⟩,
 ⟨some 14, .cmp .lss (.t 11) (.t 13), none⟩] [0, 1, 5, 14]) (.cond (.t 14) .skip (.exit 0))) (.seq (.block 1 (.seq (.reg [⟨some 17, .mov (.t 0), none⟩,
 ⟨some 18, .mov (.t 5), none⟩,
 ⟨some 19, .ids 2 (.t 17) (.t 18), none⟩,
 ⟨some 20, .ld (.agg [(.int .i64), (.int .i64)]) (.t 19), none⟩,
 ⟨some 21, .mov (.t 1), none⟩,
 ⟨some 22, .mov (.t 5), none⟩,
 ⟨some 23, .ids 2 (.t 21) (.t 22), none⟩,
 ⟨some 24, .ld (.agg [(.int .i64), (.int .i64)]) (.t 23), none⟩,
 ⟨some 25, .eqs [(0, 0), (1, 0)] (.t 20) (.t 24) true, none⟩] [0, 1, 5, 25]) (.cond (.t 25) (.seq (.reg [⟨some 4, .mov (.c (Go.Value.bool false)), none⟩] [4]) .ret) .skip))) (.reg [⟨some 15, .mov (.t 5), none⟩,
 ⟨some 16, .bin .add .i64 (.t 15) (.c (Go.Value.int Go.IntKind.i64 1)), none⟩,
 ⟨some 5, .mov (.t 16), none⟩] [0, 1, 5])))
def R14_SamePoints_f : IFn := ⟨26, [.t 4], (.seq (.reg [⟨some 4, .mov (.c (Go.Value.bool false)), none⟩] [0, 1]) (.seq (.seq (.reg [⟨some 6, .mov (.t 0), none⟩,
 ⟨some 7, .len false (.t 6), none⟩,
 ⟨some 8, .mov (.t 1), none⟩,
 ⟨some 9, .len false (.t 8), none⟩,
 ⟨some 10, .cmp .neq (.t 7) (.t 9), none⟩] [0, 1, 10]) (.cond (.t 10) (.seq (.reg [⟨some 4, .mov (.c (Go.Value.bool false)), none⟩] [4]) .ret) .skip)) (.seq (.seq (.reg [⟨some 5, .mov (.c (Go.Value.int Go.IntKind.i64 0)), none⟩] [0, 1, 5]) (.block 0 (.opq 0 [0, 1, 5] (.loop R14_SamePoints_i0)))) (.seq (.reg [⟨some 4, .mov (.c (Go.Value.bool true)), none⟩] [4]) .ret))))⟩
theorem R14_SamePoints_e0 {R : Type} (R14_SamePoints_l0 : (Unit → Option R) → (Bool → Option R) → Nat → Option Addr → Nat → Nat → Option Addr → Nat → Nat → Int → Heap → Option R) (k n : Nat) (q157 : Option Addr) (l158 : Nat) (c159 : Nat) (q160 : Option Addr) (l161 : Nat) (c162 : Nat) (n163 : Int) (H : Heap) (K : Xit → Env → Heap → Option R) : evJ (R14_SamePoints_Ct) (R14_SamePoints_Jt k R14_SamePoints_l0) R14_SamePoints_i0 (List.zip [0, 1, 5] [.slice q157 l158 c159, .slice q160 l161 c162, .int .i64 n163]) H (fun x e' H' => match x with | .normal => R14_SamePoints_aa0 R14_SamePoints_l0 n ((clean e' [0, 1, 5]).map (·.2)) H' K | x => K x (clean e' ((⟨[], [(0, [])], [4]⟩ : Out).of x)) H') = R14_SamePoints_l0_b (R14_SamePoints_l0 (fun _ => K (.exit 0) [] H) (fun t1222 => K .ret [(4, .bool t1222)] H) n) (fun _ => K (.exit 0) [] H) (fun t1222 => K .ret [(4, .bool t1222)] H) k q157 l158 c159 q160 l161 c162 n163 H := by kernel_rfl
theorem R14_SamePoints_j0 {R : Type} (k : Nat) : JS Try.prog 26 (R14_SamePoints_a0 R k k) [0, 1, 5] ⟨[], [(0, [])], [4]⟩ (.loop (sel [1, 1, 0, 1, 0, 0] (Try.f11.body.getD .skip))) :=
  loop_ok (nt := 26) (c := (sel [1, 1, 0, 1, 0, 0] (Try.f11.body.getD .skip))) (C := R14_SamePoints_C R k) (an := An) (t := (.seq (.seq (.reg [0, 1, 5, 14] []) (.cond .leaf .leaf)) (.seq (.node (.seq (.reg [0, 1, 5, 25] [[], [], [0, 1], [0, 1, 2], [], [], [4, 5], [4, 5, 6], [0, 1, 2, 3, 4, 5, 6, 7]]) (.cond (.seq (.reg [4] []) .leaf) .leaf))) (.reg [0, 1, 5] [])))) (ic := R14_SamePoints_i0) (R14_SamePoints_S R k) (R14_SamePoints_J R k) (by kernel_rfl) (And.intro (And.intro True.intro (And.intro True.intro True.intro)) (And.intro (And.intro True.intro (And.intro (And.intro True.intro True.intro) True.intro)) True.intro)) (R14_SamePoints_a0 R k) (fun vals H K => by unfold R14_SamePoints_a0 R14_SamePoints_aa0; split <;> rfl)
    (fun n vals H K r h => by
      unfold R14_SamePoints_a0 R14_SamePoints_aa0 at h
      split at h <;> first | (cases h; done) | exact Eq.trans (R14_SamePoints_e0 (R14_SamePoints_l0 k) k n _ _ _ _ _ _ _ H K) h) k
def R14_SamePoints_ca {R : Type} (f : Option Addr → Nat → Nat → Option Addr → Nat → Nat → Heap → (Bool → Option R) → Option R) (args : List Value) (H : Heap) (K : Value → Heap → Option R) : Option R :=
  match args with
  | [.slice q151 l152 c153, .slice q154 l155 c156] => f q151 l152 c153 q154 l155 c156 H (fun t1223 => K (.bool t1223) H)
  | _ => none
def R14_SamePoints_c (R : Type) (k : Nat) (args : List Value) (H : Heap) (K : Value → Heap → Option R) : Option R := R14_SamePoints_ca (R14_SamePoints k) args H K
theorem R14_SamePoints_e {R : Type} (R14_SamePoints_l0 : (Unit → Option R) → (Bool → Option R) → Nat → Option Addr → Nat → Nat → Option Addr → Nat → Nat → Int → Heap → Option R) (k : Nat) (q151 : Option Addr) (l152 : Nat) (c153 : Nat) (q154 : Option Addr) (l155 : Nat) (c156 : Nat) (H : Heap) (K : Value → Heap → Option R) : evF (R14_SamePoints_Ct) (R14_SamePoints_Jt k R14_SamePoints_l0) R14_SamePoints_f [.slice q151 l152 c153, .slice q154 l155 c156] H K = R14_SamePoints_b R14_SamePoints_l0 k q151 l152 c153 q154 l155 c156 H (fun t1223 => K (.bool t1223) H) := by kernel_rfl
theorem R14_SamePoints_cs (R : Type) (k : Nat) : ∀ args H K r, R14_SamePoints_c R k args H K = some r → ∃ v H', Tri Try.prog 11 args H v H' ∧ K v H' = some r := by
  intro args H K r h
  unfold R14_SamePoints_c R14_SamePoints_ca at h
  split at h
  · exact evF_ok (C := R14_SamePoints_C R k) (an := An) (t := R14_SamePoints_at) (fn := Try.f11) (c := (Try.f11.body.getD .skip)) (ifn := R14_SamePoints_f) (R14_SamePoints_S R k) (R14_SamePoints_J R k) Try.func11 (by kernel_rfl) (by kernel_rfl) (And.intro True.intro (And.intro (And.intro True.intro (And.intro (And.intro True.intro True.intro) True.intro)) (And.intro (And.intro True.intro (R14_SamePoints_j0 k)) (And.intro True.intro True.intro)))) rfl (Eq.trans (R14_SamePoints_e (R14_SamePoints_l0 k) k _ _ _ _ _ _ H K) h)
  · cases h
/-! ### L_CblkScans: function 3 -/
def L_CblkScans_b {R : Type} (cblk_Scan : Int → Int → Heap → (Option Addr → Nat → Nat → Heap → Option R) → Option R) (R14_Scan : Int → Int → Heap → (Option Addr → Nat → Nat → Heap → Option R) → Option R) (R14_SamePoints : Option Addr → Nat → Nat → Option Addr → Nat → Nat → Heap → (Bool → Option R) → Option R) (L_exampleHoldsq : (Bool → Option R) → Option R) (k : Nat) (n1 : Int) (n2 : Int) (H : Heap) (K : Bool → Heap → Option R) : Option R :=
cblk_Scan n1 n2 H fun q3 l4 c5 H6 =>
R14_Scan n1 n2 H6 fun q7 l8 c9 H10 =>
R14_SamePoints q3 l4 c5 q7 l8 c9 H10 fun t11 =>
bif t11 then (L_exampleHoldsq fun t12 =>
K t12 H10)
 else (K false H10)

def L_CblkScans {R : Type} (k : Nat) (n1 : Int) (n2 : Int) (H : Heap) (K : Bool → Heap → Option R) : Option R := L_CblkScans_b (cblk_Scan k) (R14_Scan k) (R14_SamePoints k) L_exampleHoldsq k n1 n2 H K

def L_CblkScans_Ct {R : Type} (cblk_Scan : Int → Int → Heap → (Option Addr → Nat → Nat → Heap → Option R) → Option R) (R14_Scan : Int → Int → Heap → (Option Addr → Nat → Nat → Heap → Option R) → Option R) (R14_SamePoints : Option Addr → Nat → Nat → Option Addr → Nat → Nat → Heap → (Bool → Option R) → Option R) (L_exampleHoldsq : (Bool → Option R) → Option R) : Tab R := tcons 12 (cblk_Scan_ca cblk_Scan) <| tcons 13 (R14_Scan_ca R14_Scan) <| tcons 11 (R14_SamePoints_ca R14_SamePoints) <| tcons 14 (L_exampleHoldsq_ca L_exampleHoldsq) <| fun _ _ _ _ => none
def L_CblkScans_C (R : Type) (k : Nat) : Tab R := L_CblkScans_Ct (cblk_Scan k) (R14_Scan k) (R14_SamePoints k) L_exampleHoldsq
theorem L_CblkScans_S (R : Type) (k : Nat) : CSound Try.prog (L_CblkScans_C R k) := csound_cons (cblk_Scan_cs R k) <| csound_cons (R14_Scan_cs R k) <| csound_cons (R14_SamePoints_cs R k) <| csound_cons (L_exampleHoldsq_cs R k) <| csound_nil
def L_CblkScans_Jt {R : Type} (k : Nat) : JTab R := fun _ _ _ _ => none
def L_CblkScans_J (R : Type) (k : Nat) : JTab R := L_CblkScans_Jt k
def L_CblkScans_at : AT := (.seq (.reg [0, 1] []) (.seq (.reg [4] []) .leaf))
def L_CblkScans_f : IFn := ⟨15, [.t 4], (.seq (.reg [⟨some 4, .mov (.c (Go.Value.bool false)), none⟩] [0, 1]) (.seq (.reg [⟨some 5, .mov (.t 0), none⟩,
 ⟨some 6, .mov (.t 1), none⟩,
 ⟨some 7, .call 12 [(.t 5), (.t 6)] (.one (.sc .slc)), none⟩,
 ⟨some 8, .mov (.t 0), none⟩,
 ⟨some 9, .mov (.t 1), none⟩,
 ⟨some 10, .call 13 [(.t 8), (.t 9)] (.one (.sc .slc)), none⟩,
 ⟨some 11, .call 11 [(.t 7), (.t 10)] (.one (.sc .bool)), none⟩,
 ⟨some 12, .mov (.t 11), none⟩,
 ⟨some 13, .call 14 [] (.one (.sc .bool)), some (12, true)⟩,
 ⟨some 14, .pick (.t 12) (.t 13) (.c (Go.Value.bool false)), none⟩,
 ⟨some 4, .mov (.t 14), none⟩] [4]) .ret))⟩
def L_CblkScans_ca {R : Type} (f : Int → Int → Heap → (Bool → Heap → Option R) → Option R) (args : List Value) (H : Heap) (K : Value → Heap → Option R) : Option R :=
  match args with
  | [.int .i64 n1, .int .i64 n2] => f n1 n2 H (fun t1224 H => K (.bool t1224) H)
  | _ => none
def L_CblkScans_c (R : Type) (k : Nat) (args : List Value) (H : Heap) (K : Value → Heap → Option R) : Option R := L_CblkScans_ca (L_CblkScans k) args H K
theorem L_CblkScans_e {R : Type} (cblk_Scan : Int → Int → Heap → (Option Addr → Nat → Nat → Heap → Option R) → Option R) (R14_Scan : Int → Int → Heap → (Option Addr → Nat → Nat → Heap → Option R) → Option R) (R14_SamePoints : Option Addr → Nat → Nat → Option Addr → Nat → Nat → Heap → (Bool → Option R) → Option R) (L_exampleHoldsq : (Bool → Option R) → Option R) (k : Nat) (n1 : Int) (n2 : Int) (H : Heap) (K : Value → Heap → Option R) : evF (L_CblkScans_Ct cblk_Scan R14_Scan R14_SamePoints L_exampleHoldsq) (L_CblkScans_Jt k) L_CblkScans_f [.int .i64 n1, .int .i64 n2] H K = L_CblkScans_b cblk_Scan R14_Scan R14_SamePoints L_exampleHoldsq k n1 n2 H (fun t1224 H => K (.bool t1224) H) := by kernel_rfl
theorem L_CblkScans_cs (R : Type) (k : Nat) : ∀ args H K r, L_CblkScans_c R k args H K = some r → ∃ v H', Tri Try.prog 3 args H v H' ∧ K v H' = some r := by
  intro args H K r h
  unfold L_CblkScans_c L_CblkScans_ca at h
  split at h
  · exact evF_ok (C := L_CblkScans_C R k) (an := An) (t := L_CblkScans_at) (fn := Try.f3) (c := (Try.f3.body.getD .skip)) (ifn := L_CblkScans_f) (L_CblkScans_S R k) (L_CblkScans_J R k) Try.func3 (by kernel_rfl) (by kernel_rfl) (And.intro True.intro (And.intro True.intro True.intro)) rfl (Eq.trans (L_CblkScans_e (cblk_Scan k) (R14_Scan k) (R14_SamePoints k) L_exampleHoldsq k _ _ H K) h)
  · cases h
end Go.Proofs.Ytblpaolcgkjcgaa.Sh
