/- Lean functions that stand for Go's, over an explicit heap, and the proofs that they do (written by this claim's program shallow.py). -/
import Derived.Test.YtblpaolcgkjcgaaSh0
import Derived.Test.YtblpaolcgkjcgaaSh1
import Derived.Test.YtblpaolcgkjcgaaSh2
import Derived.Test.YtblpaolcgkjcgaaSh3
import Derived.Test.YtblpaolcgkjcgaaSh8
import Derived.Test.YtblpaolcgkjcgaaSh11
set_option maxRecDepth 100000
set_option linter.unusedVariables false
set_option linter.unusedSimpArgs false
namespace Go.Proofs.Ytblpaolcgkjcgaa.Sh
open Go.Proofs.Ytblpaolcgkjcgaa.FW
/-! ### L_CblkNobody: function 10 -/
def L_CblkNobody_p1_b {R : Type} (cblk_Block_Size : Option Addr → Heap → (Int → Int → Option R) → Option R) (cblk_Block_Neighbors : Option Addr → Int → Int → Bool → Heap → (Int → Int → Int → Option R) → Option R) (cblk_Block_Signs : Option Addr → Int → Int → Bool → Heap → (Int → Int → Option R) → Option R) (L_do : Option Addr → Int → Int → Int → Int → Heap → (Int → Heap → Option R) → Option R) (cblk_Block_Value : Option Addr → Int → Int → Heap → (Int → Option R) → Option R) (cblk_Block_Significant : Option Addr → Int → Int → Heap → (Bool → Option R) → Option R) (cblk_Block_Touched : Option Addr → Int → Int → Heap → (Bool → Option R) → Option R) (cblk_Block_Refined : Option Addr → Int → Int → Heap → (Bool → Option R) → Option R) (k : Nat) (t991 : Bool) (p992 : Option Addr) (q993 : Option Addr) (l994 : Nat) (c995 : Nat) (n996 : Int) (n997 : Int) (H : Heap) (KN : Bool → Option Addr → Option Addr → Nat → Nat → Int → Int → Heap → Option R) (KR : Bool → Heap → Option R) : Option R :=
hidx q993 l994 n997 1 fun p998 =>
ldP H p998 fun p999 =>
cblk_Block_Size p999 H fun n1000 n1001 =>
hfad 1 p992 fun p1002 =>
ldI .i64 H p1002 fun n1003 =>
hfad 2 p992 fun p1004 =>
ldI .i64 H p1004 fun n1005 =>
cblk_Block_Neighbors p999 n1003 n1005 t991 H fun n1006 n1007 n1008 =>
hfad 1 p992 fun p1009 =>
ldI .i64 H p1009 fun n1010 =>
hfad 2 p992 fun p1011 =>
ldI .i64 H p1011 fun n1012 =>
cblk_Block_Signs p999 n1010 n1012 t991 H fun n1013 n1014 =>
ldI .i64 H (pad p992 0) fun n1015 =>
ldI .i64 H (pad p992 1) fun n1016 =>
ldI .i64 H (pad p992 2) fun n1017 =>
ldI .i64 H (pad p992 3) fun n1018 =>
L_do p999 n1015 n1016 n1017 n1018 H fun n1019 H1020 =>
bif (n1019 != 6) then (KR false H1020)
 else (bif (n1000 != 0) then (KR false H1020)
 else (bif (n1001 != 0) then (KR false H1020)
 else (bif (n1006 != 0) then (KR false H1020)
 else (bif (n1007 != 0) then (KR false H1020)
 else (bif (n1008 != 0) then (KR false H1020)
 else (bif (n1013 != 0) then (KR false H1020)
 else (bif (n1014 != 0) then (KR false H1020)
 else (hfad 1 p992 fun p1021 =>
ldI .i64 H1020 p1021 fun n1022 =>
hfad 2 p992 fun p1023 =>
ldI .i64 H1020 p1023 fun n1024 =>
cblk_Block_Value p999 n1022 n1024 H1020 fun n1025 =>
bif (n1025 != 0) then (KR false H1020)
 else (hfad 1 p992 fun p1026 =>
ldI .i64 H1020 p1026 fun n1027 =>
hfad 2 p992 fun p1028 =>
ldI .i64 H1020 p1028 fun n1029 =>
cblk_Block_Significant p999 n1027 n1029 H1020 fun t1030 =>
bif t1030 then (KR false H1020)
 else (hfad 1 p992 fun p1031 =>
ldI .i64 H1020 p1031 fun n1032 =>
hfad 2 p992 fun p1033 =>
ldI .i64 H1020 p1033 fun n1034 =>
cblk_Block_Touched p999 n1032 n1034 H1020 fun t1035 =>
bif t1035 then (KR false H1020)
 else (hfad 1 p992 fun p1036 =>
ldI .i64 H1020 p1036 fun n1037 =>
hfad 2 p992 fun p1038 =>
ldI .i64 H1020 p1038 fun n1039 =>
cblk_Block_Refined p999 n1037 n1039 H1020 fun t1040 =>
bif t1040 then (KR false H1020)
 else (KN t991 p992 q993 l994 c995 n996 n997 H1020))))))))))))
def L_CblkNobody_p1 {R : Type} (k : Nat) (t991 : Bool) (p992 : Option Addr) (q993 : Option Addr) (l994 : Nat) (c995 : Nat) (n996 : Int) (n997 : Int) (H : Heap) (KN : Bool → Option Addr → Option Addr → Nat → Nat → Int → Int → Heap → Option R) (KR : Bool → Heap → Option R) : Option R := L_CblkNobody_p1_b cblk_Block_Size (cblk_Block_Neighbors k) (cblk_Block_Signs k) (L_do k) (cblk_Block_Value k) (cblk_Block_Significant k) (cblk_Block_Touched k) (cblk_Block_Refined k) k t991 p992 q993 l994 c995 n996 n997 H KN KR

def L_CblkNobody_l0_b {R : Type} (L_CblkNobody_p1 : Bool → Option Addr → Option Addr → Nat → Nat → Int → Int → Heap → (Bool → Option Addr → Option Addr → Nat → Nat → Int → Int → Heap → Option R) → (Bool → Heap → Option R) → Option R) (rec : Bool → Option Addr → Option Addr → Nat → Nat → Int → Int → Heap → Option R) (KE0 : Heap → Option R) (KR : Bool → Heap → Option R) (k : Nat) (t984 : Bool) (p985 : Option Addr) (q986 : Option Addr) (l987 : Nat) (c988 : Nat) (n989 : Int) (n990 : Int) (H : Heap) : Option R :=
bif decide (n990 < n989) then (L_CblkNobody_p1 t984 p985 q986 l987 c988 n989 n990 H (fun t1049 p1050 q1051 l1052 c1053 n1054 n1055 H1056 =>
rec t1049 p1050 q1051 l1052 c1053 n1054 (IntKind.wrap .i64 (n1055 + 1)) H1056) (fun t1057 H1058 =>
KR t1057 H1058))
 else (KE0 H)
def L_CblkNobody_l0 {R : Type} (k : Nat) (KE0 : Heap → Option R) (KR : Bool → Heap → Option R) : Nat → Bool → Option Addr → Option Addr → Nat → Nat → Int → Int → Heap → Option R
  | 0, _, _, _, _, _, _, _, _ => none
  | n + 1, t984, p985, q986, l987, c988, n989, n990, H => L_CblkNobody_l0_b (L_CblkNobody_p1 k) (L_CblkNobody_l0 k KE0 KR n) KE0 KR k t984 p985 q986 l987 c988 n989 n990 H

def L_CblkNobody_b {R : Type} (L_CblkNobody_l0 : (Heap → Option R) → (Bool → Heap → Option R) → Nat → Bool → Option Addr → Option Addr → Nat → Nat → Int → Int → Heap → Option R) (L_exampleHoldsq : (Bool → Option R) → Option R) (k : Nat) (n973 : Int) (n974 : Int) (n975 : Int) (n976 : Int) (t977 : Bool) (H : Heap) (K : Bool → Heap → Option R) : Option R :=
hal H [.int .i64 n973, .int .i64 n974, .int .i64 n975, .int .i64 n976] fun p978 H979 =>
hal H979 [.int .i64 0, .int .i64 0, .slice none 0 0] fun p980 H981 =>
hal H981 [.pointer none, .pointer p980] fun p982 H983 =>
L_CblkNobody_l0 (fun H1060 =>
L_exampleHoldsq fun t1061 =>
K t1061 H1060) (fun t1062 H1063 =>
K t1062 H1063) k t977 p978 p982 2 2 ((2 : Nat) : Int) 0 H983

def L_CblkNobody {R : Type} (k : Nat) (n973 : Int) (n974 : Int) (n975 : Int) (n976 : Int) (t977 : Bool) (H : Heap) (K : Bool → Heap → Option R) : Option R := L_CblkNobody_b (L_CblkNobody_l0 k) L_exampleHoldsq k n973 n974 n975 n976 t977 H K

def L_CblkNobody_Ct {R : Type} (cblk_Block_Size : Option Addr → Heap → (Int → Int → Option R) → Option R) (cblk_Block_Neighbors : Option Addr → Int → Int → Bool → Heap → (Int → Int → Int → Option R) → Option R) (cblk_Block_Signs : Option Addr → Int → Int → Bool → Heap → (Int → Int → Option R) → Option R) (L_do : Option Addr → Int → Int → Int → Int → Heap → (Int → Heap → Option R) → Option R) (cblk_Block_Value : Option Addr → Int → Int → Heap → (Int → Option R) → Option R) (cblk_Block_Significant : Option Addr → Int → Int → Heap → (Bool → Option R) → Option R) (cblk_Block_Touched : Option Addr → Int → Int → Heap → (Bool → Option R) → Option R) (cblk_Block_Refined : Option Addr → Int → Int → Heap → (Bool → Option R) → Option R) (L_exampleHoldsq : (Bool → Option R) → Option R) : Tab R := tcons 37 (cblk_Block_Size_ca cblk_Block_Size) <| tcons 29 (cblk_Block_Neighbors_ca cblk_Block_Neighbors) <| tcons 30 (cblk_Block_Signs_ca cblk_Block_Signs) <| tcons 32 (L_do_ca L_do) <| tcons 33 (cblk_Block_Value_ca cblk_Block_Value) <| tcons 25 (cblk_Block_Significant_ca cblk_Block_Significant) <| tcons 34 (cblk_Block_Touched_ca cblk_Block_Touched) <| tcons 35 (cblk_Block_Refined_ca cblk_Block_Refined) <| tcons 14 (L_exampleHoldsq_ca L_exampleHoldsq) <| fun _ _ _ _ => none
def L_CblkNobody_C (R : Type) (k : Nat) : Tab R := L_CblkNobody_Ct cblk_Block_Size (cblk_Block_Neighbors k) (cblk_Block_Signs k) (L_do k) (cblk_Block_Value k) (cblk_Block_Significant k) (cblk_Block_Touched k) (cblk_Block_Refined k) L_exampleHoldsq
theorem L_CblkNobody_S (R : Type) (k : Nat) : CSound Try.prog (L_CblkNobody_C R k) := csound_cons (cblk_Block_Size_cs R k) <| csound_cons (cblk_Block_Neighbors_cs R k) <| csound_cons (cblk_Block_Signs_cs R k) <| csound_cons (L_do_cs R k) <| csound_cons (cblk_Block_Value_cs R k) <| csound_cons (cblk_Block_Significant_cs R k) <| csound_cons (cblk_Block_Touched_cs R k) <| csound_cons (cblk_Block_Refined_cs R k) <| csound_cons (L_exampleHoldsq_cs R k) <| csound_nil
def L_CblkNobody_aa0 {R : Type} (f : (Heap → Option R) → (Bool → Heap → Option R) → Nat → Bool → Option Addr → Option Addr → Nat → Nat → Int → Int → Heap → Option R) (n : Nat) (vals : List Value) (H : Heap) (K : Xit → Env → Heap → Option R) : Option R :=
  match vals with
  | [.bool t984, .pointer p985, .slice q986 l987 c988, .int .i64 n989, .int .i64 n990] => f (fun H => K (.exit 0) [] H) (fun t1607 H => K .ret [(4, .bool t1607)] H) n t984 p985 q986 l987 c988 n989 n990 H
  | _ => none
def L_CblkNobody_a0 (R : Type) (k n : Nat) (vals : List Value) (H : Heap) (K : Xit → Env → Heap → Option R) : Option R := L_CblkNobody_aa0 (L_CblkNobody_l0 k) n vals H K
def L_CblkNobody_aa1 {R : Type} (f : Bool → Option Addr → Option Addr → Nat → Nat → Int → Int → Heap → (Bool → Option Addr → Option Addr → Nat → Nat → Int → Int → Heap → Option R) → (Bool → Heap → Option R) → Option R) (n : Nat) (vals : List Value) (H : Heap) (K : Xit → Env → Heap → Option R) : Option R :=
  match vals with
  | [.bool t991, .pointer p992, .slice q993 l994 c995, .int .i64 n996, .int .i64 n997] => f t991 p992 q993 l994 c995 n996 n997 H (fun t1608 p1609 q1610 l1611 c1612 n1613 n1614 H => K .normal [(1, .bool t1608), (2, .pointer p1609), (16, .slice q1610 l1611 c1612), (17, .int .i64 n1613), (18, .int .i64 n1614)] H) (fun t1615 H => K .ret [(4, .bool t1615)] H)
  | _ => none
def L_CblkNobody_a1 (R : Type) (k n : Nat) (vals : List Value) (H : Heap) (K : Xit → Env → Heap → Option R) : Option R := L_CblkNobody_aa1 (L_CblkNobody_p1 k) n vals H K
def L_CblkNobody_Jt {R : Type} (k : Nat) (L_CblkNobody_l0 : (Heap → Option R) → (Bool → Heap → Option R) → Nat → Bool → Option Addr → Option Addr → Nat → Nat → Int → Int → Heap → Option R) (L_CblkNobody_p1 : Bool → Option Addr → Option Addr → Nat → Nat → Int → Int → Heap → (Bool → Option Addr → Option Addr → Nat → Nat → Int → Int → Heap → Option R) → (Bool → Heap → Option R) → Option R) : JTab R := tcons 0 (L_CblkNobody_aa0 L_CblkNobody_l0 k) <| tcons 1 (L_CblkNobody_aa1 L_CblkNobody_p1 k) <| fun _ _ _ _ => none
def L_CblkNobody_J (R : Type) (k : Nat) : JTab R := L_CblkNobody_Jt k (L_CblkNobody_l0 k) (L_CblkNobody_p1 k)
def L_CblkNobody_at : AT := (.seq (.reg [1, 2] []) (.seq (.seq (.reg [1, 2, 16, 17, 18] []) (.node (.opq 0 [1, 2, 16, 17, 18] ⟨[], [(0, [])], [4]⟩ (.node (.seq (.reg [1, 2, 16, 17, 18, 19] []) (.seq (.cond .leaf .leaf) (.seq (.opq 1 [1, 2, 16, 17, 18] ⟨[1, 2, 16, 17, 18], [], [4]⟩ (.node (.seq (.reg [1, 2, 6, 16, 17, 18] []) (.seq (.reg [1, 2, 6, 7, 8, 16, 17, 18] []) (.seq (.reg [1, 2, 6, 7, 8, 9, 10, 11, 16, 17, 18] []) (.seq (.reg [1, 2, 6, 7, 8, 9, 10, 11, 12, 13, 16, 17, 18] []) (.seq (.reg [1, 2, 16, 17, 18, 112] []) (.cond (.seq (.reg [4] []) .leaf) .leaf)))))))) (.reg [1, 2, 16, 17, 18] [])))))))) (.seq (.reg [4] []) .leaf)))
def L_CblkNobody_i1 : IC := (.block 1 (.seq (.reg [⟨some 20, .ids 1 (.t 16) (.t 18), none⟩,
 ⟨some 21, .ld (.sc .ptr) (.t 20), none⟩,
 ⟨some 6, .mov (.t 21), none⟩] [1, 2, 6, 16, 17, 18]) (.seq (.reg [⟨some 23, .mov (.t 6), none⟩,
 ⟨some 24, .call 37 [(.t 23)] (.tup [(.sc (.int .i64)), (.sc (.int .i64))]), none⟩,
 ⟨some 22, .mov (.t 24), none⟩,
 ⟨some 25, .ext 0 (.t 22), none⟩,
 ⟨some 26, .ext 1 (.t 22), none⟩,
 ⟨some 7, .mov (.t 25), none⟩,
 ⟨some 8, .mov (.t 26), none⟩] [1, 2, 6, 7, 8, 16, 17, 18]) (.seq (.reg [⟨some 28, .mov (.t 6), none⟩,
 ⟨some 29, .fad 1 (.t 2), none⟩,
 ⟨some 30, .ld (.sc (.int .i64)) (.t 29), none⟩,
 ⟨some 31, .fad 2 (.t 2), none⟩,
 ⟨some 32, .ld (.sc (.int .i64)) (.t 31), none⟩,
 ⟨some 33, .mov (.t 1), none⟩,
 ⟨some 34, .call 29 [(.t 28), (.t 30), (.t 32), (.t 33)] (.tup [(.sc (.int .i64)), (.sc (.int .i64)), (.sc (.int .i64))]), none⟩,
 ⟨some 27, .mov (.t 34), none⟩,
 ⟨some 35, .ext 0 (.t 27), none⟩,
 ⟨some 36, .ext 1 (.t 27), none⟩,
 ⟨some 37, .ext 2 (.t 27), none⟩,
 ⟨some 9, .mov (.t 35), none⟩,
 ⟨some 10, .mov (.t 36), none⟩,
 ⟨some 11, .mov (.t 37), none⟩] [1, 2, 6, 7, 8, 9, 10, 11, 16, 17, 18]) (.seq (.reg [⟨some 39, .mov (.t 6), none⟩,
 ⟨some 40, .fad 1 (.t 2), none⟩,
 ⟨some 41, .ld (.sc (.int .i64)) (.t 40), none⟩,
 ⟨some 42, .fad 2 (.t 2), none⟩,
 ⟨some 43, .ld (.sc (.int .i64)) (.t 42), none⟩,
 ⟨some 44, .mov (.t 1), none⟩,
 ⟨some 45, .call 30 [(.t 39), (.t 41), (.t 43), (.t 44)] (.tup [(.sc (.int .i64)), (.sc (.int .i64))]), none⟩,
 ⟨some 38, .mov (.t 45), none⟩,
 ⟨some 46, .ext 0 (.t 38), none⟩,
 ⟨some 47, .ext 1 (.t 38), none⟩,
 ⟨some 12, .mov (.t 46), none⟩,
 ⟨some 13, .mov (.t 47), none⟩] [1, 2, 6, 7, 8, 9, 10, 11, 12, 13, 16, 17, 18]) (.seq (.reg [⟨some 48, .mov (.t 6), none⟩,
 ⟨some 49, .ld (.agg [(.int .i64), (.int .i64), (.int .i64), (.int .i64)]) (.t 2), none⟩,
 ⟨some 50, .call 32 [(.t 48), (.t 49)] (.one (.sc (.int .i64))), none⟩,
 ⟨some 51, .cmp .neq (.t 50) (.c (Go.Value.int Go.IntKind.i64 6)), none⟩,
 ⟨some 52, .mov (.t 51), none⟩,
 ⟨some 53, .mov (.t 7), some (52, false)⟩,
 ⟨some 54, .cmp .neq (.t 53) (.c (Go.Value.int Go.IntKind.i64 0)), some (52, false)⟩,
 ⟨some 55, .pick (.t 52) (.c (Go.Value.bool true)) (.t 54), none⟩,
 ⟨some 56, .mov (.t 55), none⟩,
 ⟨some 57, .mov (.t 8), some (56, false)⟩,
 ⟨some 58, .cmp .neq (.t 57) (.c (Go.Value.int Go.IntKind.i64 0)), some (56, false)⟩,
 ⟨some 59, .pick (.t 56) (.c (Go.Value.bool true)) (.t 58), none⟩,
 ⟨some 60, .mov (.t 59), none⟩,
 ⟨some 61, .mov (.t 9), some (60, false)⟩,
 ⟨some 62, .cmp .neq (.t 61) (.c (Go.Value.int Go.IntKind.i64 0)), some (60, false)⟩,
 ⟨some 63, .pick (.t 60) (.c (Go.Value.bool true)) (.t 62), none⟩,
 ⟨some 64, .mov (.t 63), none⟩,
 ⟨some 65, .mov (.t 10), some (64, false)⟩,
 ⟨some 66, .cmp .neq (.t 65) (.c (Go.Value.int Go.IntKind.i64 0)), some (64, false)⟩,
 ⟨some 67, .pick (.t 64) (.c (Go.Value.bool true)) (.t 66), none⟩,
 ⟨some 68, .mov (.t 67), none⟩,
 ⟨some 69, .mov (.t 11), some (68, false)⟩,
 ⟨some 70, .cmp .neq (.t 69) (.c (Go.Value.int Go.IntKind.i64 0)), some (68, false)⟩,
 ⟨some 71, .pick (.t 68) (.c (Go.Value.bool true)) (.t 70), none⟩,
 ⟨some 72, .mov (.t 71), none⟩,
 ⟨some 73, .mov (.t 12), some (72, false)⟩,
 ⟨some 74, .cmp .neq (.t 73) (.c (Go.Value.int Go.IntKind.i64 0)), some (72, false)⟩,
 ⟨some 75, .pick (.t 72) (.c (Go.Value.bool true)) (.t 74), none⟩,
 ⟨some 76, .mov (.t 75), none⟩,
 ⟨some 77, .mov (.t 13), some (76, false)⟩,
 ⟨some 78, .cmp .neq (.t 77) (.c (Go.Value.int Go.IntKind.i64 0)), some (76, false)⟩,
 ⟨some 79, .pick (.t 76) (.c (Go.Value.bool true)) (.t 78), none⟩,
 ⟨some 80, .mov (.t 79), none⟩,
 ⟨some 81, .mov (.t 6), some (80, false)⟩,
 ⟨some 82, .fad 1 (.t 2), some (80, false)⟩,
 ⟨some 83, .ld (.sc (.int .i64)) (.t 82), some (80, false)⟩,
 ⟨some 84, .fad 2 (.t 2), some (80, false)⟩,
 ⟨some 85, .ld (.sc (.int .i64)) (.t 84), some (80, false)⟩,
 ⟨some 86, .call 33 [(.t 81), (.t 83), (.t 85)] (.one (.sc (.int .i64))), some (80, false)⟩,
 ⟨some 87, .cmp .neq (.t 86) (.c (Go.Value.int Go.IntKind.i64 0)), some (80, false)⟩,
 ⟨some 88, .pick (.t 80) (.c (Go.Value.bool true)) (.t 87), none⟩,
 ⟨some 89, .mov (.t 88), none⟩,
 ⟨some 90, .mov (.t 6), some (89, false)⟩,
 ⟨some 91, .fad 1 (.t 2), some (89, false)⟩,
 ⟨some 92, .ld (.sc (.int .i64)) (.t 91), some (89, false)⟩,
 ⟨some 93, .fad 2 (.t 2), some (89, false)⟩,
 ⟨some 94, .ld (.sc (.int .i64)) (.t 93), some (89, false)⟩,
 ⟨some 95, .call 25 [(.t 90), (.t 92), (.t 94)] (.one (.sc .bool)), some (89, false)⟩,
 ⟨some 96, .pick (.t 89) (.c (Go.Value.bool true)) (.t 95), none⟩,
 ⟨some 97, .mov (.t 96), none⟩,
 ⟨some 98, .mov (.t 6), some (97, false)⟩,
 ⟨some 99, .fad 1 (.t 2), some (97, false)⟩,
 ⟨some 100, .ld (.sc (.int .i64)) (.t 99), some (97, false)⟩,
 ⟨some 101, .fad 2 (.t 2), some (97, false)⟩,
 ⟨some 102, .ld (.sc (.int .i64)) (.t 101), some (97, false)⟩,
 ⟨some 103, .call 34 [(.t 98), (.t 100), (.t 102)] (.one (.sc .bool)), some (97, false)⟩,
 ⟨some 104, .pick (.t 97) (.c (Go.Value.bool true)) (.t 103), none⟩,
 ⟨some 105, .mov (.t 104), none⟩,
 ⟨some 106, .mov (.t 6), some (105, false)⟩,
 ⟨some 107, .fad 1 (.t 2), some (105, false)⟩,
 ⟨some 108, .ld (.sc (.int .i64)) (.t 107), some (105, false)⟩,
 ⟨some 109, .fad 2 (.t 2), some (105, false)⟩,
 ⟨some 110, .ld (.sc (.int .i64)) (.t 109), some (105, false)⟩,
 ⟨some 111, .call 35 [(.t 106), (.t 108), (.t 110)] (.one (.sc .bool)), some (105, false)⟩,
 ⟨some 112, .pick (.t 105) (.c (Go.Value.bool true)) (.t 111), none⟩] [1, 2, 16, 17, 18, 112]) (.cond (.t 112) (.seq (.reg [⟨some 4, .mov (.c (Go.Value.bool false)), none⟩] [4]) .ret) .skip)))))))
def L_CblkNobody_i0 : IC := (.seq (.reg [⟨some 19, .cmp .lss (.t 18) (.t 17), none⟩] [1, 2, 16, 17, 18, 19]) (.seq (.cond (.t 19) .skip (.exit 0)) (.seq (.opq 1 [1, 2, 16, 17, 18] L_CblkNobody_i1) (.reg [⟨some 113, .bin .add .i64 (.t 18) (.c (Go.Value.int Go.IntKind.i64 1)), none⟩,
 ⟨some 18, .mov (.t 113), none⟩] [1, 2, 16, 17, 18]))))
def L_CblkNobody_f : IFn := ⟨115, [.t 4], (.seq (.reg [⟨some 2, .box (.t 0), none⟩,
 ⟨some 4, .mov (.c (Go.Value.bool false)), none⟩] [1, 2]) (.seq (.seq (.reg [⟨some 14, .bld [.int .i64 0, .int .i64 0, .slice none 0 0] [], none⟩,
 ⟨some 15, .box (.t 14), none⟩,
 ⟨some 16, .bls 2 [.pointer none, .pointer none] [(0, 1, (.c (Go.Value.pointer none))), (1, 1, (.t 15))], none⟩,
 ⟨some 17, .len false (.t 16), none⟩,
 ⟨some 18, .mov (.c (Go.Value.int Go.IntKind.i64 0)), none⟩] [1, 2, 16, 17, 18]) (.block 0 (.opq 0 [1, 2, 16, 17, 18] (.loop L_CblkNobody_i0)))) (.seq (.reg [⟨some 114, .call 14 [] (.one (.sc .bool)), none⟩,
 ⟨some 4, .mov (.t 114), none⟩] [4]) .ret)))⟩
theorem L_CblkNobody_e1 {R : Type} (cblk_Block_Size : Option Addr → Heap → (Int → Int → Option R) → Option R) (cblk_Block_Neighbors : Option Addr → Int → Int → Bool → Heap → (Int → Int → Int → Option R) → Option R) (cblk_Block_Signs : Option Addr → Int → Int → Bool → Heap → (Int → Int → Option R) → Option R) (L_do : Option Addr → Int → Int → Int → Int → Heap → (Int → Heap → Option R) → Option R) (cblk_Block_Value : Option Addr → Int → Int → Heap → (Int → Option R) → Option R) (cblk_Block_Significant : Option Addr → Int → Int → Heap → (Bool → Option R) → Option R) (cblk_Block_Touched : Option Addr → Int → Int → Heap → (Bool → Option R) → Option R) (cblk_Block_Refined : Option Addr → Int → Int → Heap → (Bool → Option R) → Option R) (L_exampleHoldsq : (Bool → Option R) → Option R) (L_CblkNobody_l0 : (Heap → Option R) → (Bool → Heap → Option R) → Nat → Bool → Option Addr → Option Addr → Nat → Nat → Int → Int → Heap → Option R) (L_CblkNobody_p1 : Bool → Option Addr → Option Addr → Nat → Nat → Int → Int → Heap → (Bool → Option Addr → Option Addr → Nat → Nat → Int → Int → Heap → Option R) → (Bool → Heap → Option R) → Option R) (k : Nat) (t991 : Bool) (p992 : Option Addr) (q993 : Option Addr) (l994 : Nat) (c995 : Nat) (n996 : Int) (n997 : Int) (H : Heap) (K : Xit → Env → Heap → Option R) : evJ (L_CblkNobody_Ct cblk_Block_Size cblk_Block_Neighbors cblk_Block_Signs L_do cblk_Block_Value cblk_Block_Significant cblk_Block_Touched cblk_Block_Refined L_exampleHoldsq) (L_CblkNobody_Jt k L_CblkNobody_l0 L_CblkNobody_p1) L_CblkNobody_i1 (List.zip [1, 2, 16, 17, 18] [.bool t991, .pointer p992, .slice q993 l994 c995, .int .i64 n996, .int .i64 n997]) H (fun x e' H' => K x (clean e' ((⟨[1, 2, 16, 17, 18], [], [4]⟩ : Out).of x)) H') = L_CblkNobody_p1_b cblk_Block_Size cblk_Block_Neighbors cblk_Block_Signs L_do cblk_Block_Value cblk_Block_Significant cblk_Block_Touched cblk_Block_Refined k t991 p992 q993 l994 c995 n996 n997 H (fun t1608 p1609 q1610 l1611 c1612 n1613 n1614 H => K .normal [(1, .bool t1608), (2, .pointer p1609), (16, .slice q1610 l1611 c1612), (17, .int .i64 n1613), (18, .int .i64 n1614)] H) (fun t1615 H => K .ret [(4, .bool t1615)] H) := by kernel_rfl
theorem L_CblkNobody_j1 {R : Type} (k : Nat) : JS Try.prog 115 (L_CblkNobody_a1 R k k) [1, 2, 16, 17, 18] ⟨[1, 2, 16, 17, 18], [], [4]⟩ (sel [1, 0, 1, 0, 0, 1, 1, 0] (Try.f10.body.getD .skip)) :=
  piece_ok (nt := 115) (c := (sel [1, 0, 1, 0, 0, 1, 1, 0] (Try.f10.body.getD .skip))) (C := L_CblkNobody_C R k) (an := An) (t := (.node (.seq (.reg [1, 2, 6, 16, 17, 18] []) (.seq (.reg [1, 2, 6, 7, 8, 16, 17, 18] []) (.seq (.reg [1, 2, 6, 7, 8, 9, 10, 11, 16, 17, 18] []) (.seq (.reg [1, 2, 6, 7, 8, 9, 10, 11, 12, 13, 16, 17, 18] []) (.seq (.reg [1, 2, 16, 17, 18, 112] []) (.cond (.seq (.reg [4] []) .leaf) .leaf)))))))) (ic := L_CblkNobody_i1) (L_CblkNobody_S R k) (L_CblkNobody_J R k) (by kernel_rfl) (And.intro True.intro (And.intro True.intro (And.intro True.intro (And.intro True.intro (And.intro True.intro (And.intro (And.intro True.intro True.intro) True.intro)))))) (L_CblkNobody_a1 R k k)
    (fun vals H K r h => by
      unfold L_CblkNobody_a1 L_CblkNobody_aa1 at h
      split at h <;> first | (cases h; done) | exact Eq.trans (L_CblkNobody_e1 cblk_Block_Size (cblk_Block_Neighbors k) (cblk_Block_Signs k) (L_do k) (cblk_Block_Value k) (cblk_Block_Significant k) (cblk_Block_Touched k) (cblk_Block_Refined k) L_exampleHoldsq (L_CblkNobody_l0 k) (L_CblkNobody_p1 k) k _ _ _ _ _ _ _ H K) h)
theorem L_CblkNobody_e0 {R : Type} (cblk_Block_Size : Option Addr → Heap → (Int → Int → Option R) → Option R) (cblk_Block_Neighbors : Option Addr → Int → Int → Bool → Heap → (Int → Int → Int → Option R) → Option R) (cblk_Block_Signs : Option Addr → Int → Int → Bool → Heap → (Int → Int → Option R) → Option R) (L_do : Option Addr → Int → Int → Int → Int → Heap → (Int → Heap → Option R) → Option R) (cblk_Block_Value : Option Addr → Int → Int → Heap → (Int → Option R) → Option R) (cblk_Block_Significant : Option Addr → Int → Int → Heap → (Bool → Option R) → Option R) (cblk_Block_Touched : Option Addr → Int → Int → Heap → (Bool → Option R) → Option R) (cblk_Block_Refined : Option Addr → Int → Int → Heap → (Bool → Option R) → Option R) (L_exampleHoldsq : (Bool → Option R) → Option R) (L_CblkNobody_l0 : (Heap → Option R) → (Bool → Heap → Option R) → Nat → Bool → Option Addr → Option Addr → Nat → Nat → Int → Int → Heap → Option R) (L_CblkNobody_p1 : Bool → Option Addr → Option Addr → Nat → Nat → Int → Int → Heap → (Bool → Option Addr → Option Addr → Nat → Nat → Int → Int → Heap → Option R) → (Bool → Heap → Option R) → Option R) (k n : Nat) (t984 : Bool) (p985 : Option Addr) (q986 : Option Addr) (l987 : Nat) (c988 : Nat) (n989 : Int) (n990 : Int) (H : Heap) (K : Xit → Env → Heap → Option R) : evJ (L_CblkNobody_Ct cblk_Block_Size cblk_Block_Neighbors cblk_Block_Signs L_do cblk_Block_Value cblk_Block_Significant cblk_Block_Touched cblk_Block_Refined L_exampleHoldsq) (L_CblkNobody_Jt k L_CblkNobody_l0 L_CblkNobody_p1) L_CblkNobody_i0 (List.zip [1, 2, 16, 17, 18] [.bool t984, .pointer p985, .slice q986 l987 c988, .int .i64 n989, .int .i64 n990]) H (fun x e' H' => match x with | .normal => L_CblkNobody_aa0 L_CblkNobody_l0 n ((clean e' [1, 2, 16, 17, 18]).map (·.2)) H' K | x => K x (clean e' ((⟨[], [(0, [])], [4]⟩ : Out).of x)) H') = L_CblkNobody_l0_b L_CblkNobody_p1 (L_CblkNobody_l0 (fun H => K (.exit 0) [] H) (fun t1607 H => K .ret [(4, .bool t1607)] H) n) (fun H => K (.exit 0) [] H) (fun t1607 H => K .ret [(4, .bool t1607)] H) k t984 p985 q986 l987 c988 n989 n990 H := by kernel_rfl
theorem L_CblkNobody_j0 {R : Type} (k : Nat) : JS Try.prog 115 (L_CblkNobody_a0 R k k) [1, 2, 16, 17, 18] ⟨[], [(0, [])], [4]⟩ (.loop (sel [1, 0, 1, 0, 0] (Try.f10.body.getD .skip))) :=
  loop_ok (nt := 115) (c := (sel [1, 0, 1, 0, 0] (Try.f10.body.getD .skip))) (C := L_CblkNobody_C R k) (an := An) (t := (.seq (.reg [1, 2, 16, 17, 18, 19] []) (.seq (.cond .leaf .leaf) (.seq (.opq 1 [1, 2, 16, 17, 18] ⟨[1, 2, 16, 17, 18], [], [4]⟩ (.node (.seq (.reg [1, 2, 6, 16, 17, 18] []) (.seq (.reg [1, 2, 6, 7, 8, 16, 17, 18] []) (.seq (.reg [1, 2, 6, 7, 8, 9, 10, 11, 16, 17, 18] []) (.seq (.reg [1, 2, 6, 7, 8, 9, 10, 11, 12, 13, 16, 17, 18] []) (.seq (.reg [1, 2, 16, 17, 18, 112] []) (.cond (.seq (.reg [4] []) .leaf) .leaf)))))))) (.reg [1, 2, 16, 17, 18] []))))) (ic := L_CblkNobody_i0) (L_CblkNobody_S R k) (L_CblkNobody_J R k) (by kernel_rfl) (And.intro True.intro (And.intro (And.intro True.intro True.intro) (And.intro (L_CblkNobody_j1 k) True.intro))) (L_CblkNobody_a0 R k) (fun vals H K => by unfold L_CblkNobody_a0 L_CblkNobody_aa0; split <;> rfl)
    (fun n vals H K r h => by
      unfold L_CblkNobody_a0 L_CblkNobody_aa0 at h
      split at h <;> first | (cases h; done) | exact Eq.trans (L_CblkNobody_e0 cblk_Block_Size (cblk_Block_Neighbors k) (cblk_Block_Signs k) (L_do k) (cblk_Block_Value k) (cblk_Block_Significant k) (cblk_Block_Touched k) (cblk_Block_Refined k) L_exampleHoldsq (L_CblkNobody_l0 k) (L_CblkNobody_p1 k) k n _ _ _ _ _ _ _ H K) h) k
def L_CblkNobody_ca {R : Type} (f : Int → Int → Int → Int → Bool → Heap → (Bool → Heap → Option R) → Option R) (args : List Value) (H : Heap) (K : Value → Heap → Option R) : Option R :=
  match args with
  | [.agg ⟨[.int .i64 n973, .int .i64 n974, .int .i64 n975, .int .i64 n976]⟩, .bool t977] => f n973 n974 n975 n976 t977 H (fun t1616 H => K (.bool t1616) H)
  | _ => none
def L_CblkNobody_c (R : Type) (k : Nat) (args : List Value) (H : Heap) (K : Value → Heap → Option R) : Option R := L_CblkNobody_ca (L_CblkNobody k) args H K
theorem L_CblkNobody_e {R : Type} (cblk_Block_Size : Option Addr → Heap → (Int → Int → Option R) → Option R) (cblk_Block_Neighbors : Option Addr → Int → Int → Bool → Heap → (Int → Int → Int → Option R) → Option R) (cblk_Block_Signs : Option Addr → Int → Int → Bool → Heap → (Int → Int → Option R) → Option R) (L_do : Option Addr → Int → Int → Int → Int → Heap → (Int → Heap → Option R) → Option R) (cblk_Block_Value : Option Addr → Int → Int → Heap → (Int → Option R) → Option R) (cblk_Block_Significant : Option Addr → Int → Int → Heap → (Bool → Option R) → Option R) (cblk_Block_Touched : Option Addr → Int → Int → Heap → (Bool → Option R) → Option R) (cblk_Block_Refined : Option Addr → Int → Int → Heap → (Bool → Option R) → Option R) (L_exampleHoldsq : (Bool → Option R) → Option R) (L_CblkNobody_l0 : (Heap → Option R) → (Bool → Heap → Option R) → Nat → Bool → Option Addr → Option Addr → Nat → Nat → Int → Int → Heap → Option R) (L_CblkNobody_p1 : Bool → Option Addr → Option Addr → Nat → Nat → Int → Int → Heap → (Bool → Option Addr → Option Addr → Nat → Nat → Int → Int → Heap → Option R) → (Bool → Heap → Option R) → Option R) (k : Nat) (n973 : Int) (n974 : Int) (n975 : Int) (n976 : Int) (t977 : Bool) (H : Heap) (K : Value → Heap → Option R) : evF (L_CblkNobody_Ct cblk_Block_Size cblk_Block_Neighbors cblk_Block_Signs L_do cblk_Block_Value cblk_Block_Significant cblk_Block_Touched cblk_Block_Refined L_exampleHoldsq) (L_CblkNobody_Jt k L_CblkNobody_l0 L_CblkNobody_p1) L_CblkNobody_f [.agg ⟨[.int .i64 n973, .int .i64 n974, .int .i64 n975, .int .i64 n976]⟩, .bool t977] H K = L_CblkNobody_b L_CblkNobody_l0 L_exampleHoldsq k n973 n974 n975 n976 t977 H (fun t1616 H => K (.bool t1616) H) := by kernel_rfl
theorem L_CblkNobody_cs (R : Type) (k : Nat) : ∀ args H K r, L_CblkNobody_c R k args H K = some r → ∃ v H', Tri Try.prog 10 args H v H' ∧ K v H' = some r := by
  intro args H K r h
  unfold L_CblkNobody_c L_CblkNobody_ca at h
  split at h
  · exact evF_ok (C := L_CblkNobody_C R k) (an := An) (t := L_CblkNobody_at) (fn := Try.f10) (c := (Try.f10.body.getD .skip)) (ifn := L_CblkNobody_f) (L_CblkNobody_S R k) (L_CblkNobody_J R k) Try.func10 (by kernel_rfl) (by kernel_rfl) (And.intro True.intro (And.intro (And.intro True.intro (L_CblkNobody_j0 k)) (And.intro True.intro True.intro))) rfl (Eq.trans (L_CblkNobody_e cblk_Block_Size (cblk_Block_Neighbors k) (cblk_Block_Signs k) (L_do k) (cblk_Block_Value k) (cblk_Block_Significant k) (cblk_Block_Touched k) (cblk_Block_Refined k) L_exampleHoldsq (L_CblkNobody_l0 k) (L_CblkNobody_p1 k) k _ _ _ _ _ H K) h)
  · cases h
end Go.Proofs.Ytblpaolcgkjcgaa.Sh
