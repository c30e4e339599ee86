/- Lean functions that stand for Go's, over an explicit heap, and the proofs that they do (written by this claim's program shallow.py). -/
import Derived.Test.YtoeoolnkndkefaaSh0
import Derived.Test.YtoeoolnkndkefaaSh2
set_option maxRecDepth 100000
set_option linter.unusedVariables false
set_option linter.unusedSimpArgs false
namespace Go.Proofs.Ytoeoolnkndkefaa.Sh
open Go.Proofs.Ytoeoolnkndkefaa.FW
/-! ### color_change_v37: function 39 -/
def color_change_v37_l0_b {R : Type} (rec : Int → Option Addr → Nat → Nat → Option Addr → Nat → Nat → Int → Int → Heap → Option R) (KE0 : Int → Option Addr → Nat → Nat → Heap → Option R) (k : Nat) (n911 : Int) (q912 : Option Addr) (l913 : Nat) (c914 : Nat) (q915 : Option Addr) (l916 : Nat) (c917 : Nat) (n918 : Int) (n919 : Int) (H : Heap) : Option R :=
bif decide (n919 < n918) then (hidx q915 l916 n919 5 fun p920 =>
ldI .i64 H (pad p920 0) fun n921 =>
ldI .i64 H (pad p920 1) fun n922 =>
ldI .i64 H (pad p920 2) fun n923 =>
ldI .i64 H (pad p920 3) fun n924 =>
ldL H (pad p920 4) fun q925 l926 c927 =>
hal H [.int .i64 0, .int .i64 0, .int .i64 0, .int .i64 0, .slice none 0 0] fun p928 H929 =>
hst H929 p928 [.int .i64 n921, .int .i64 n922, .int .i64 n923, .int .i64 n924, .slice q925 l926 c927] fun H930 =>
hfad 0 p928 fun p931 =>
ldI .i64 H930 (pad p931 0) fun n932 =>
ldI .i64 H930 (pad p931 1) fun n933 =>
ldI .i64 H930 (pad p931 2) fun n934 =>
ldI .i64 H930 (pad p931 3) fun n935 =>
hal H930 [] fun p936 H937 =>
hfad 4 p928 fun p938 =>
ldL H937 p938 fun q939 l940 c941 =>
hapnS 1 8 H937 p936 0 0 q939 l940 fun q942 l943 c944 H945 =>
hal H945 [.int .i64 n932, .int .i64 n933, .int .i64 n934, .int .i64 n935, .slice q942 l943 c944] fun p946 H947 =>
happS 5 56 H947 q912 l913 c914 p946 1 fun q948 l949 c950 H951 =>
rec n911 q948 l949 c950 q915 l916 c917 n918 (IntKind.wrap .i64 (n919 + 1)) H951)
 else (KE0 n911 q912 l913 c914 H)
def color_change_v37_l0 {R : Type} (k : Nat) (KE0 : Int → Option Addr → Nat → Nat → Heap → Option R) : Nat → Int → Option Addr → Nat → Nat → Option Addr → Nat → Nat → Int → Int → Heap → Option R
  | 0, _, _, _, _, _, _, _, _, _, _ => none
  | n + 1, n911, q912, l913, c914, q915, l916, c917, n918, n919, H => color_change_v37_l0_b (color_change_v37_l0 k KE0 n) KE0 k n911 q912 l913 c914 q915 l916 c917 n918 n919 H

def color_change_v37_l2_b {R : Type} (rec : Int → Option Addr → Nat → Nat → Int → Int → Int → Int → Int → Int → Int → Heap → Option R) (KE4 : Int → Option Addr → Nat → Nat → Int → Int → Heap → Option R) (k : Nat) (n1003 : Int) (q1004 : Option Addr) (l1005 : Nat) (c1006 : Nat) (n1007 : Int) (n1008 : Int) (n1009 : Int) (n1010 : Int) (n1011 : Int) (n1012 : Int) (n1013 : Int) (H : Heap) : Option R :=
bif decide (n1013 < 3) then (vat [.int .i64 n1010, .int .i64 n1011, .int .i64 n1012] 3 1 n1013 fun v1014 =>
asI .i64 v1014 fun n1015 =>
hidx q1004 l1005 n1013 5 fun p1016 =>
hfad 4 p1016 fun p1017 =>
ldL H p1017 fun q1018 l1019 c1020 =>
hidx q1018 l1019 n1007 1 fun p1021 =>
hst1 H p1021 (.int .i64 n1015) fun H1022 =>
rec n1003 q1004 l1005 c1006 n1007 n1008 n1009 n1010 n1011 n1012 (IntKind.wrap .i64 (n1013 + 1)) H1022)
 else (KE4 n1003 q1004 l1005 c1006 n1008 n1009 H)
def color_change_v37_l2 {R : Type} (k : Nat) (KE4 : Int → Option Addr → Nat → Nat → Int → Int → Heap → Option R) : Nat → Int → Option Addr → Nat → Nat → Int → Int → Int → Int → Int → Int → Int → Heap → Option R
  | 0, _, _, _, _, _, _, _, _, _, _, _, _ => none
  | n + 1, n1003, q1004, l1005, c1006, n1007, n1008, n1009, n1010, n1011, n1012, n1013, H => color_change_v37_l2_b (color_change_v37_l2 k KE4 n) KE4 k n1003 q1004 l1005 c1006 n1007 n1008 n1009 n1010 n1011 n1012 n1013 H

def color_change_v37_l1_b {R : Type} (color_inverse : Int → Int → Int → Int → Heap → (Int → Int → Int → Heap → Option R) → Option R) (color_change_v37_l2 : (Int → Option Addr → Nat → Nat → Int → Int → Heap → Option R) → Nat → Int → Option Addr → Nat → Nat → Int → Int → Int → Int → Int → Int → Int → Heap → Option R) (rec : Int → Option Addr → Nat → Nat → Int → Int → Heap → Option R) (KE2 : Option Addr → Nat → Nat → Heap → Option R) (k : Nat) (n966 : Int) (q967 : Option Addr) (l968 : Nat) (c969 : Nat) (n970 : Int) (n971 : Int) (H : Heap) : Option R :=
bif decide (n971 < n970) then (hidx q967 l968 0 5 fun p972 =>
hfad 4 p972 fun p973 =>
ldL H p973 fun q974 l975 c976 =>
hidx q974 l975 n971 1 fun p977 =>
ldI .i64 H p977 fun n978 =>
hidx q967 l968 1 5 fun p979 =>
hfad 4 p979 fun p980 =>
ldL H p980 fun q981 l982 c983 =>
hidx q981 l982 n971 1 fun p984 =>
ldI .i64 H p984 fun n985 =>
hidx q967 l968 2 5 fun p986 =>
hfad 4 p986 fun p987 =>
ldL H p987 fun q988 l989 c990 =>
hidx q988 l989 n971 1 fun p991 =>
ldI .i64 H p991 fun n992 =>
color_inverse n966 n978 n985 n992 (roH H) fun n993 n994 n995 H996 =>
hal H [.int .i64 0, .int .i64 0, .int .i64 0] fun p997 H998 =>
hst H998 p997 [.int .i64 n993, .int .i64 n994, .int .i64 n995] fun H999 =>
ldI .i64 H999 (pad p997 0) fun n1000 =>
ldI .i64 H999 (pad p997 1) fun n1001 =>
ldI .i64 H999 (pad p997 2) fun n1002 =>
color_change_v37_l2 (fun n1029 q1030 l1031 c1032 n1033 n1034 H1035 =>
rec n1029 q1030 l1031 c1032 n1033 (IntKind.wrap .i64 (n1034 + 1)) H1035) k n966 q967 l968 c969 n971 n970 n971 n1000 n1001 n1002 0 H999)
 else (KE2 q967 l968 c969 H)
def color_change_v37_l1 {R : Type} (k : Nat) (KE2 : Option Addr → Nat → Nat → Heap → Option R) : Nat → Int → Option Addr → Nat → Nat → Int → Int → Heap → Option R
  | 0, _, _, _, _, _, _, _ => none
  | n + 1, n966, q967, l968, c969, n970, n971, H => color_change_v37_l1_b color_inverse (color_change_v37_l2 k) (color_change_v37_l1 k KE2 n) KE2 k n966 q967 l968 c969 n970 n971 H

def color_change_v37_b {R : Type} (color_change_v37_l0 : (Int → Option Addr → Nat → Nat → Heap → Option R) → Nat → Int → Option Addr → Nat → Nat → Option Addr → Nat → Nat → Int → Int → Heap → Option R) (color_change_v37_l1 : (Option Addr → Nat → Nat → Heap → Option R) → Nat → Int → Option Addr → Nat → Nat → Int → Int → Heap → Option R) (k : Nat) (n907 : Int) (q908 : Option Addr) (l909 : Nat) (c910 : Nat) (H : Heap) (K : Option Addr → Nat → Nat → Heap → Option R) : Option R :=
color_change_v37_l0 (fun n956 q957 l958 c959 H960 =>
bif (n956 == 0) then (K q957 l958 c959 H960)
 else (hidx q957 l958 0 5 fun p961 =>
hfad 4 p961 fun p962 =>
ldL H960 p962 fun q963 l964 c965 =>
color_change_v37_l1 (fun q1039 l1040 c1041 H1042 =>
K q1039 l1040 c1041 H1042) k n956 q957 l958 c959 ((l964 : Nat) : Int) 0 H960)) k n907 none 0 0 q908 l909 c910 ((l909 : Nat) : Int) 0 H

def color_change_v37 {R : Type} (k : Nat) (n907 : Int) (q908 : Option Addr) (l909 : Nat) (c910 : Nat) (H : Heap) (K : Option Addr → Nat → Nat → Heap → Option R) : Option R := color_change_v37_b (color_change_v37_l0 k) (color_change_v37_l1 k) k n907 q908 l909 c910 H K

def color_change_v37_Ct {R : Type} (color_inverse : Int → Int → Int → Int → Heap → (Int → Int → Int → Heap → Option R) → Option R) : Tab R := tcons 37 (color_inverse_ca color_inverse) <| fun _ _ _ _ => none
def color_change_v37_C (R : Type) (k : Nat) : Tab R := color_change_v37_Ct color_inverse
theorem color_change_v37_S (R : Type) (k : Nat) : CSound Try.prog (color_change_v37_C R k) := csound_cons (color_inverse_cs R k) <| csound_nil
def color_change_v37_aa0 {R : Type} (f : (Int → Option Addr → Nat → Nat → Heap → Option R) → Nat → Int → Option Addr → Nat → Nat → Option Addr → Nat → Nat → Int → Int → Heap → Option R) (n : Nat) (vals : List Value) (H : Heap) (K : Xit → Env → Heap → Option R) : Option R :=
  match vals with
  | [.int .i64 n911, .func (.func 37) ⟨[]⟩ ⟨[]⟩, .slice q912 l913 c914, .slice q915 l916 c917, .int .i64 n918, .int .i64 n919] => f (fun n1204 q1205 l1206 c1207 H => K (.exit 0) [(0, .int .i64 n1204), (2, .func (.func 37) #[] ⟨[]⟩), (7, .slice q1205 l1206 c1207)] H) n n911 q912 l913 c914 q915 l916 c917 n918 n919 H
  | _ => none
def color_change_v37_a0 (R : Type) (k n : Nat) (vals : List Value) (H : Heap) (K : Xit → Env → Heap → Option R) : Option R := color_change_v37_aa0 (color_change_v37_l0 k) n vals H K
def color_change_v37_aa1 {R : Type} (f : (Option Addr → Nat → Nat → Heap → Option R) → Nat → Int → Option Addr → Nat → Nat → Int → Int → Heap → Option R) (n : Nat) (vals : List Value) (H : Heap) (K : Xit → Env → Heap → Option R) : Option R :=
  match vals with
  | [.int .i64 n966, .func (.func 37) ⟨[]⟩ ⟨[]⟩, .slice q967 l968 c969, .int .i64 n970, .int .i64 n971] => f (fun q1208 l1209 c1210 H => K (.exit 2) [(7, .slice q1208 l1209 c1210)] H) n n966 q967 l968 c969 n970 n971 H
  | _ => none
def color_change_v37_a1 (R : Type) (k n : Nat) (vals : List Value) (H : Heap) (K : Xit → Env → Heap → Option R) : Option R := color_change_v37_aa1 (color_change_v37_l1 k) n vals H K
def color_change_v37_aa2 {R : Type} (f : (Int → Option Addr → Nat → Nat → Int → Int → Heap → Option R) → Nat → Int → Option Addr → Nat → Nat → Int → Int → Int → Int → Int → Int → Int → Heap → Option R) (n : Nat) (vals : List Value) (H : Heap) (K : Xit → Env → Heap → Option R) : Option R :=
  match vals with
  | [.int .i64 n1003, .func (.func 37) ⟨[]⟩ ⟨[]⟩, .slice q1004 l1005 c1006, .int .i64 n1007, .int .i64 n1008, .int .i64 n1009, .agg ⟨[.int .i64 n1010, .int .i64 n1011, .int .i64 n1012]⟩, .int .i64 n1013] => f (fun n1211 q1212 l1213 c1214 n1215 n1216 H => K (.exit 4) [(0, .int .i64 n1211), (2, .func (.func 37) #[] ⟨[]⟩), (7, .slice q1212 l1213 c1214), (38, .int .i64 n1215), (39, .int .i64 n1216)] H) n n1003 q1004 l1005 c1006 n1007 n1008 n1009 n1010 n1011 n1012 n1013 H
  | _ => none
def color_change_v37_a2 (R : Type) (k n : Nat) (vals : List Value) (H : Heap) (K : Xit → Env → Heap → Option R) : Option R := color_change_v37_aa2 (color_change_v37_l2 k) n vals H K
def color_change_v37_Jt {R : Type} (k : Nat) (color_change_v37_l0 : (Int → Option Addr → Nat → Nat → Heap → Option R) → Nat → Int → Option Addr → Nat → Nat → Option Addr → Nat → Nat → Int → Int → Heap → Option R) (color_change_v37_l1 : (Option Addr → Nat → Nat → Heap → Option R) → Nat → Int → Option Addr → Nat → Nat → Int → Int → Heap → Option R) (color_change_v37_l2 : (Int → Option Addr → Nat → Nat → Int → Int → Heap → Option R) → Nat → Int → Option Addr → Nat → Nat → Int → Int → Int → Int → Int → Int → Int → Heap → Option R) : JTab R := tcons 0 (color_change_v37_aa0 color_change_v37_l0 k) <| tcons 1 (color_change_v37_aa1 color_change_v37_l1 k) <| tcons 2 (color_change_v37_aa2 color_change_v37_l2 k) <| fun _ _ _ _ => none
def color_change_v37_J (R : Type) (k : Nat) : JTab R := color_change_v37_Jt k (color_change_v37_l0 k) (color_change_v37_l1 k) (color_change_v37_l2 k)
def color_change_v37_at : AT := (.seq (.reg [0, 1, 2] []) (.seq (.reg [0, 1, 2, 7] []) (.seq (.seq (.reg [0, 2, 7, 14, 15, 16] []) (.node (.opq 0 [0, 2, 7, 14, 15, 16] ⟨[], [(0, [0, 2, 7])], []⟩ (.node (.seq (.reg [0, 2, 7, 14, 15, 16, 17] []) (.seq (.cond .leaf .leaf) (.seq (.node (.seq (.reg [0, 2, 7, 9, 14, 15, 16] []) (.reg [0, 2, 7, 14, 15, 16] [[], [], [1], [], [], [4], [3, 4, 5], [1, 2, 3, 4, 5, 6], [1, 2, 3, 4, 5, 6, 7], [0, 1, 2, 3, 4, 5, 6, 7, 8], [0, 1, 2, 3, 4, 5, 6, 7, 8, 9]]))) (.reg [0, 2, 7, 14, 15, 16] [])))))))) (.seq (.seq (.reg [0, 2, 7, 32] []) (.cond (.seq (.reg [6] []) .leaf) .leaf)) (.seq (.seq (.reg [0, 2, 7, 38, 39] []) (.node (.opq 1 [0, 2, 7, 38, 39] ⟨[], [(2, [7])], []⟩ (.node (.seq (.reg [0, 2, 7, 38, 39, 40] []) (.seq (.cond .leaf .leaf) (.seq (.node (.seq (.reg [0, 2, 7, 10, 38, 39] []) (.seq (.reg [0, 2, 7, 10, 11, 38, 39] [[], [], [], [2], [2, 3], [2, 3, 4], [], [2, 3, 4, 5, 6], [2, 3, 4, 5, 6, 7], [], [9], [9, 10], [9, 10, 11], [], [9, 10, 11, 12, 13], [9, 10, 11, 12, 13, 14], [], [16], [16, 17], [16, 17, 18], [], [16, 17, 18, 19, 20], [16, 17, 18, 19, 20, 21], [2, 3, 4, 5, 6, 7, 8, 9, 10, 11, 12, 13, 14, 15, 16, 17, 18, 19, 20, 21, 22], [0, 1, 2, 3, 4, 5, 6, 7, 8, 9, 10, 11, 12, 13, 14, 15, 16, 17, 18, 19, 20, 21, 22, 23], [], [0, 1, 2, 3, 4, 5, 6, 7, 8, 9, 10, 11, 12, 13, 14, 15, 16, 17, 18, 19, 20, 21, 22, 23, 24, 25]]) (.seq (.reg [0, 2, 7, 10, 38, 39, 67, 68] []) (.node (.opq 2 [0, 2, 7, 10, 38, 39, 67, 68] ⟨[], [(4, [0, 2, 7, 38, 39])], []⟩ (.node (.seq (.reg [0, 2, 7, 10, 38, 39, 67, 68, 69] []) (.seq (.cond .leaf .leaf) (.seq (.node (.seq (.reg [0, 2, 7, 10, 12, 13, 38, 39, 67, 68] []) (.reg [0, 2, 7, 10, 38, 39, 67, 68] []))) (.reg [0, 2, 7, 10, 38, 39, 67, 68] []))))))))))) (.reg [0, 2, 7, 38, 39] [])))))))) (.seq (.reg [6] []) .leaf))))))
def color_change_v37_i2 : IC := (.seq (.reg [⟨some 69, .cmp .lss (.t 68) (.c (Go.Value.int Go.IntKind.i64 3)), none⟩] [0, 2, 7, 10, 38, 39, 67, 68, 69]) (.seq (.cond (.t 69) .skip (.exit 4)) (.seq (.block 5 (.seq (.reg [⟨some 70, .mov (.t 68), none⟩,
 ⟨some 71, .idv 3 1 (.sc (.int .i64)) (.t 67) (.t 68), none⟩,
 ⟨some 12, .mov (.t 70), none⟩,
 ⟨some 13, .mov (.t 71), none⟩] [0, 2, 7, 10, 12, 13, 38, 39, 67, 68]) (.reg [⟨some 72, .mov (.t 7), none⟩,
 ⟨some 73, .mov (.t 12), none⟩,
 ⟨some 74, .ids 5 (.t 72) (.t 73), none⟩,
 ⟨some 75, .fad 4 (.t 74), none⟩,
 ⟨some 76, .ld (.sc .slc) (.t 75), none⟩,
 ⟨some 77, .mov (.t 10), none⟩,
 ⟨some 78, .mov (.t 13), none⟩,
 ⟨some 79, .ids 1 (.t 76) (.t 77), none⟩,
 ⟨none, .st 1 (.t 79) (.t 78), none⟩] [0, 2, 7, 10, 38, 39, 67, 68]))) (.reg [⟨some 80, .bin .add .i64 (.t 68) (.c (Go.Value.int Go.IntKind.i64 1)), none⟩,
 ⟨some 68, .mov (.t 80), none⟩] [0, 2, 7, 10, 38, 39, 67, 68]))))
def color_change_v37_i1 : IC := (.seq (.reg [⟨some 40, .cmp .lss (.t 39) (.t 38), none⟩] [0, 2, 7, 38, 39, 40]) (.seq (.cond (.t 40) .skip (.exit 2)) (.seq (.block 3 (.seq (.reg [⟨some 41, .mov (.t 39), none⟩,
 ⟨some 10, .mov (.t 41), none⟩] [0, 2, 7, 10, 38, 39]) (.seq (.reg [⟨some 42, .mov (.t 2), none⟩,
 ⟨some 43, .mov (.t 0), none⟩,
 ⟨some 44, .mov (.t 7), none⟩,
 ⟨some 45, .ids 5 (.t 44) (.c (Go.Value.int Go.IntKind.i64 0)), none⟩,
 ⟨some 46, .fad 4 (.t 45), none⟩,
 ⟨some 47, .ld (.sc .slc) (.t 46), none⟩,
 ⟨some 48, .mov (.t 10), none⟩,
 ⟨some 49, .ids 1 (.t 47) (.t 48), none⟩,
 ⟨some 50, .ld (.sc (.int .i64)) (.t 49), none⟩,
 ⟨some 51, .mov (.t 7), none⟩,
 ⟨some 52, .ids 5 (.t 51) (.c (Go.Value.int Go.IntKind.i64 1)), none⟩,
 ⟨some 53, .fad 4 (.t 52), none⟩,
 ⟨some 54, .ld (.sc .slc) (.t 53), none⟩,
 ⟨some 55, .mov (.t 10), none⟩,
 ⟨some 56, .ids 1 (.t 54) (.t 55), none⟩,
 ⟨some 57, .ld (.sc (.int .i64)) (.t 56), none⟩,
 ⟨some 58, .mov (.t 7), none⟩,
 ⟨some 59, .ids 5 (.t 58) (.c (Go.Value.int Go.IntKind.i64 2)), none⟩,
 ⟨some 60, .fad 4 (.t 59), none⟩,
 ⟨some 61, .ld (.sc .slc) (.t 60), none⟩,
 ⟨some 62, .mov (.t 10), none⟩,
 ⟨some 63, .ids 1 (.t 61) (.t 62), none⟩,
 ⟨some 64, .ld (.sc (.int .i64)) (.t 63), none⟩,
 ⟨some 65, .bld [.int .i64 0, .int .i64 0, .int .i64 0] [(0, 1, (.t 50)), (1, 1, (.t 57)), (2, 1, (.t 64))], none⟩,
 ⟨some 66, .calq (.t 42) [(.t 43), (.t 65)] (.one (.agg [(.int .i64), (.int .i64), (.int .i64)])), none⟩,
 ⟨some 11, .alc [.int .i64 0, .int .i64 0, .int .i64 0], none⟩,
 ⟨none, .st 3 (.t 11) (.t 66), none⟩] [0, 2, 7, 10, 11, 38, 39]) (.seq (.reg [⟨some 67, .ld (.agg [(.int .i64), (.int .i64), (.int .i64)]) (.t 11), none⟩,
 ⟨some 68, .mov (.c (Go.Value.int Go.IntKind.i64 0)), none⟩] [0, 2, 7, 10, 38, 39, 67, 68]) (.block 4 (.opq 2 [0, 2, 7, 10, 38, 39, 67, 68] (.loop color_change_v37_i2))))))) (.reg [⟨some 81, .bin .add .i64 (.t 39) (.c (Go.Value.int Go.IntKind.i64 1)), none⟩,
 ⟨some 39, .mov (.t 81), none⟩] [0, 2, 7, 38, 39]))))
def color_change_v37_i0 : IC := (.seq (.reg [⟨some 17, .cmp .lss (.t 16) (.t 15), none⟩] [0, 2, 7, 14, 15, 16, 17]) (.seq (.cond (.t 17) .skip (.exit 0)) (.seq (.block 1 (.seq (.reg [⟨some 18, .ids 5 (.t 14) (.t 16), none⟩,
 ⟨some 19, .ld (.agg [(.int .i64), (.int .i64), (.int .i64), (.int .i64), .slc]) (.t 18), none⟩,
 ⟨some 9, .alc [.int .i64 0, .int .i64 0, .int .i64 0, .int .i64 0, .slice none 0 0], none⟩,
 ⟨none, .st 5 (.t 9) (.t 19), none⟩] [0, 2, 7, 9, 14, 15, 16]) (.reg [⟨some 20, .mov (.t 7), none⟩,
 ⟨some 21, .fad 0 (.t 9), none⟩,
 ⟨some 22, .ld (.agg [(.int .i64), (.int .i64), (.int .i64), (.int .i64)]) (.t 21), none⟩,
 ⟨some 23, .bls 0 [] [], none⟩,
 ⟨some 24, .fad 4 (.t 9), none⟩,
 ⟨some 25, .ld (.sc .slc) (.t 24), none⟩,
 ⟨some 26, .apn [.int .i64 0] 8 (.t 23) (.t 25), none⟩,
 ⟨some 27, .bld [.int .i64 0, .int .i64 0, .int .i64 0, .int .i64 0, .slice none 0 0] [(0, 4, (.t 22)), (4, 1, (.t 26))], none⟩,
 ⟨some 28, .bls 1 [.int .i64 0, .int .i64 0, .int .i64 0, .int .i64 0, .slice none 0 0] [(0, 5, (.t 27))], none⟩,
 ⟨some 29, .app [.int .i64 0, .int .i64 0, .int .i64 0, .int .i64 0, .slice none 0 0] 56 (.t 20) (.t 28), none⟩,
 ⟨some 7, .mov (.t 29), none⟩] [0, 2, 7, 14, 15, 16]))) (.reg [⟨some 30, .bin .add .i64 (.t 16) (.c (Go.Value.int Go.IntKind.i64 1)), none⟩,
 ⟨some 16, .mov (.t 30), none⟩] [0, 2, 7, 14, 15, 16]))))
def color_change_v37_f : IFn := ⟨83, [.t 6], (.seq (.reg [⟨some 6, .mov (.c (Go.Value.slice none 0 0)), none⟩] [0, 1, 2]) (.seq (.reg [⟨some 7, .mov (.c (Go.Value.slice none 0 0)), none⟩] [0, 1, 2, 7]) (.seq (.seq (.reg [⟨some 14, .mov (.t 1), none⟩,
 ⟨some 15, .len false (.t 14), none⟩,
 ⟨some 16, .mov (.c (Go.Value.int Go.IntKind.i64 0)), none⟩] [0, 2, 7, 14, 15, 16]) (.block 0 (.opq 0 [0, 2, 7, 14, 15, 16] (.loop color_change_v37_i0)))) (.seq (.seq (.reg [⟨some 31, .mov (.t 0), none⟩,
 ⟨some 32, .cmp .eql (.t 31) (.c (Go.Value.int Go.IntKind.i64 0)), none⟩] [0, 2, 7, 32]) (.cond (.t 32) (.seq (.reg [⟨some 33, .mov (.t 7), none⟩,
 ⟨some 6, .mov (.t 33), none⟩] [6]) .ret) .skip)) (.seq (.seq (.reg [⟨some 34, .mov (.t 7), none⟩,
 ⟨some 35, .ids 5 (.t 34) (.c (Go.Value.int Go.IntKind.i64 0)), none⟩,
 ⟨some 36, .fad 4 (.t 35), none⟩,
 ⟨some 37, .ld (.sc .slc) (.t 36), none⟩,
 ⟨some 38, .len false (.t 37), none⟩,
 ⟨some 39, .mov (.c (Go.Value.int Go.IntKind.i64 0)), none⟩] [0, 2, 7, 38, 39]) (.block 2 (.opq 1 [0, 2, 7, 38, 39] (.loop color_change_v37_i1)))) (.seq (.reg [⟨some 82, .mov (.t 7), none⟩,
 ⟨some 6, .mov (.t 82), none⟩] [6]) .ret))))))⟩
theorem color_change_v37_e2 {R : Type} (color_inverse : Int → Int → Int → Int → Heap → (Int → Int → Int → Heap → Option R) → Option R) (color_change_v37_l0 : (Int → Option Addr → Nat → Nat → Heap → Option R) → Nat → Int → Option Addr → Nat → Nat → Option Addr → Nat → Nat → Int → Int → Heap → Option R) (color_change_v37_l1 : (Option Addr → Nat → Nat → Heap → Option R) → Nat → Int → Option Addr → Nat → Nat → Int → Int → Heap → Option R) (color_change_v37_l2 : (Int → Option Addr → Nat → Nat → Int → Int → Heap → Option R) → Nat → Int → Option Addr → Nat → Nat → Int → Int → Int → Int → Int → Int → Int → Heap → Option R) (k n : Nat) (n1003 : Int) (q1004 : Option Addr) (l1005 : Nat) (c1006 : Nat) (n1007 : Int) (n1008 : Int) (n1009 : Int) (n1010 : Int) (n1011 : Int) (n1012 : Int) (n1013 : Int) (H : Heap) (K : Xit → Env → Heap → Option R) : evJ (color_change_v37_Ct color_inverse) (color_change_v37_Jt k color_change_v37_l0 color_change_v37_l1 color_change_v37_l2) color_change_v37_i2 (List.zip [0, 2, 7, 10, 38, 39, 67, 68] [.int .i64 n1003, .func (.func 37) ⟨[]⟩ ⟨[]⟩, .slice q1004 l1005 c1006, .int .i64 n1007, .int .i64 n1008, .int .i64 n1009, .agg ⟨[.int .i64 n1010, .int .i64 n1011, .int .i64 n1012]⟩, .int .i64 n1013]) H (fun x e' H' => match x with | .normal => color_change_v37_aa2 color_change_v37_l2 n ((clean e' [0, 2, 7, 10, 38, 39, 67, 68]).map (·.2)) H' K | x => K x (clean e' ((⟨[], [(4, [0, 2, 7, 38, 39])], []⟩ : Out).of x)) H') = color_change_v37_l2_b (color_change_v37_l2 (fun n1211 q1212 l1213 c1214 n1215 n1216 H => K (.exit 4) [(0, .int .i64 n1211), (2, .func (.func 37) #[] ⟨[]⟩), (7, .slice q1212 l1213 c1214), (38, .int .i64 n1215), (39, .int .i64 n1216)] H) n) (fun n1211 q1212 l1213 c1214 n1215 n1216 H => K (.exit 4) [(0, .int .i64 n1211), (2, .func (.func 37) #[] ⟨[]⟩), (7, .slice q1212 l1213 c1214), (38, .int .i64 n1215), (39, .int .i64 n1216)] H) k n1003 q1004 l1005 c1006 n1007 n1008 n1009 n1010 n1011 n1012 n1013 H := by kernel_rfl
theorem color_change_v37_j2 {R : Type} (k : Nat) : JS Try.prog 83 (color_change_v37_a2 R k k) [0, 2, 7, 10, 38, 39, 67, 68] ⟨[], [(4, [0, 2, 7, 38, 39])], []⟩ (.loop (sel [1, 1, 1, 1, 0, 1, 0, 0, 1, 1, 0, 0, 1, 1, 1, 0, 0] (Try.f39.body.getD .skip))) :=
  loop_ok (nt := 83) (c := (sel [1, 1, 1, 1, 0, 1, 0, 0, 1, 1, 0, 0, 1, 1, 1, 0, 0] (Try.f39.body.getD .skip))) (C := color_change_v37_C R k) (an := An) (t := (.seq (.reg [0, 2, 7, 10, 38, 39, 67, 68, 69] []) (.seq (.cond .leaf .leaf) (.seq (.node (.seq (.reg [0, 2, 7, 10, 12, 13, 38, 39, 67, 68] []) (.reg [0, 2, 7, 10, 38, 39, 67, 68] []))) (.reg [0, 2, 7, 10, 38, 39, 67, 68] []))))) (ic := color_change_v37_i2) (color_change_v37_S R k) (color_change_v37_J R k) (by kernel_rfl) (And.intro True.intro (And.intro (And.intro True.intro True.intro) (And.intro (And.intro True.intro True.intro) True.intro))) (color_change_v37_a2 R k) (fun vals H K => by unfold color_change_v37_a2 color_change_v37_aa2; split <;> rfl)
    (fun n vals H K r h => by
      unfold color_change_v37_a2 color_change_v37_aa2 at h
      split at h <;> first | (cases h; done) | exact Eq.trans (color_change_v37_e2 color_inverse (color_change_v37_l0 k) (color_change_v37_l1 k) (color_change_v37_l2 k) k n _ _ _ _ _ _ _ _ _ _ _ H K) h) k
theorem color_change_v37_e1 {R : Type} (color_inverse : Int → Int → Int → Int → Heap → (Int → Int → Int → Heap → Option R) → Option R) (color_change_v37_l0 : (Int → Option Addr → Nat → Nat → Heap → Option R) → Nat → Int → Option Addr → Nat → Nat → Option Addr → Nat → Nat → Int → Int → Heap → Option R) (color_change_v37_l1 : (Option Addr → Nat → Nat → Heap → Option R) → Nat → Int → Option Addr → Nat → Nat → Int → Int → Heap → Option R) (color_change_v37_l2 : (Int → Option Addr → Nat → Nat → Int → Int → Heap → Option R) → Nat → Int → Option Addr → Nat → Nat → Int → Int → Int → Int → Int → Int → Int → Heap → Option R) (k n : Nat) (n966 : Int) (q967 : Option Addr) (l968 : Nat) (c969 : Nat) (n970 : Int) (n971 : Int) (H : Heap) (K : Xit → Env → Heap → Option R) : evJ (color_change_v37_Ct color_inverse) (color_change_v37_Jt k color_change_v37_l0 color_change_v37_l1 color_change_v37_l2) color_change_v37_i1 (List.zip [0, 2, 7, 38, 39] [.int .i64 n966, .func (.func 37) ⟨[]⟩ ⟨[]⟩, .slice q967 l968 c969, .int .i64 n970, .int .i64 n971]) H (fun x e' H' => match x with | .normal => color_change_v37_aa1 color_change_v37_l1 n ((clean e' [0, 2, 7, 38, 39]).map (·.2)) H' K | x => K x (clean e' ((⟨[], [(2, [7])], []⟩ : Out).of x)) H') = color_change_v37_l1_b color_inverse color_change_v37_l2 (color_change_v37_l1 (fun q1208 l1209 c1210 H => K (.exit 2) [(7, .slice q1208 l1209 c1210)] H) n) (fun q1208 l1209 c1210 H => K (.exit 2) [(7, .slice q1208 l1209 c1210)] H) k n966 q967 l968 c969 n970 n971 H := by kernel_rfl
theorem color_change_v37_j1 {R : Type} (k : Nat) : JS Try.prog 83 (color_change_v37_a1 R k k) [0, 2, 7, 38, 39] ⟨[], [(2, [7])], []⟩ (.loop (sel [1, 1, 1, 1, 0, 1, 0, 0] (Try.f39.body.getD .skip))) :=
  loop_ok (nt := 83) (c := (sel [1, 1, 1, 1, 0, 1, 0, 0] (Try.f39.body.getD .skip))) (C := color_change_v37_C R k) (an := An) (t := (.seq (.reg [0, 2, 7, 38, 39, 40] []) (.seq (.cond .leaf .leaf) (.seq (.node (.seq (.reg [0, 2, 7, 10, 38, 39] []) (.seq (.reg [0, 2, 7, 10, 11, 38, 39] [[], [], [], [2], [2, 3], [2, 3, 4], [], [2, 3, 4, 5, 6], [2, 3, 4, 5, 6, 7], [], [9], [9, 10], [9, 10, 11], [], [9, 10, 11, 12, 13], [9, 10, 11, 12, 13, 14], [], [16], [16, 17], [16, 17, 18], [], [16, 17, 18, 19, 20], [16, 17, 18, 19, 20, 21], [2, 3, 4, 5, 6, 7, 8, 9, 10, 11, 12, 13, 14, 15, 16, 17, 18, 19, 20, 21, 22], [0, 1, 2, 3, 4, 5, 6, 7, 8, 9, 10, 11, 12, 13, 14, 15, 16, 17, 18, 19, 20, 21, 22, 23], [], [0, 1, 2, 3, 4, 5, 6, 7, 8, 9, 10, 11, 12, 13, 14, 15, 16, 17, 18, 19, 20, 21, 22, 23, 24, 25]]) (.seq (.reg [0, 2, 7, 10, 38, 39, 67, 68] []) (.node (.opq 2 [0, 2, 7, 10, 38, 39, 67, 68] ⟨[], [(4, [0, 2, 7, 38, 39])], []⟩ (.node (.seq (.reg [0, 2, 7, 10, 38, 39, 67, 68, 69] []) (.seq (.cond .leaf .leaf) (.seq (.node (.seq (.reg [0, 2, 7, 10, 12, 13, 38, 39, 67, 68] []) (.reg [0, 2, 7, 10, 38, 39, 67, 68] []))) (.reg [0, 2, 7, 10, 38, 39, 67, 68] []))))))))))) (.reg [0, 2, 7, 38, 39] []))))) (ic := color_change_v37_i1) (color_change_v37_S R k) (color_change_v37_J R k) (by kernel_rfl) (And.intro True.intro (And.intro (And.intro True.intro True.intro) (And.intro (And.intro True.intro (And.intro True.intro (And.intro True.intro (color_change_v37_j2 k)))) True.intro))) (color_change_v37_a1 R k) (fun vals H K => by unfold color_change_v37_a1 color_change_v37_aa1; split <;> rfl)
    (fun n vals H K r h => by
      unfold color_change_v37_a1 color_change_v37_aa1 at h
      split at h <;> first | (cases h; done) | exact Eq.trans (color_change_v37_e1 color_inverse (color_change_v37_l0 k) (color_change_v37_l1 k) (color_change_v37_l2 k) k n _ _ _ _ _ _ H K) h) k
theorem color_change_v37_e0 {R : Type} (color_inverse : Int → Int → Int → Int → Heap → (Int → Int → Int → Heap → Option R) → Option R) (color_change_v37_l0 : (Int → Option Addr → Nat → Nat → Heap → Option R) → Nat → Int → Option Addr → Nat → Nat → Option Addr → Nat → Nat → Int → Int → Heap → Option R) (color_change_v37_l1 : (Option Addr → Nat → Nat → Heap → Option R) → Nat → Int → Option Addr → Nat → Nat → Int → Int → Heap → Option R) (color_change_v37_l2 : (Int → Option Addr → Nat → Nat → Int → Int → Heap → Option R) → Nat → Int → Option Addr → Nat → Nat → Int → Int → Int → Int → Int → Int → Int → Heap → Option R) (k n : Nat) (n911 : Int) (q912 : Option Addr) (l913 : Nat) (c914 : Nat) (q915 : Option Addr) (l916 : Nat) (c917 : Nat) (n918 : Int) (n919 : Int) (H : Heap) (K : Xit → Env → Heap → Option R) : evJ (color_change_v37_Ct color_inverse) (color_change_v37_Jt k color_change_v37_l0 color_change_v37_l1 color_change_v37_l2) color_change_v37_i0 (List.zip [0, 2, 7, 14, 15, 16] [.int .i64 n911, .func (.func 37) ⟨[]⟩ ⟨[]⟩, .slice q912 l913 c914, .slice q915 l916 c917, .int .i64 n918, .int .i64 n919]) H (fun x e' H' => match x with | .normal => color_change_v37_aa0 color_change_v37_l0 n ((clean e' [0, 2, 7, 14, 15, 16]).map (·.2)) H' K | x => K x (clean e' ((⟨[], [(0, [0, 2, 7])], []⟩ : Out).of x)) H') = color_change_v37_l0_b (color_change_v37_l0 (fun n1204 q1205 l1206 c1207 H => K (.exit 0) [(0, .int .i64 n1204), (2, .func (.func 37) #[] ⟨[]⟩), (7, .slice q1205 l1206 c1207)] H) n) (fun n1204 q1205 l1206 c1207 H => K (.exit 0) [(0, .int .i64 n1204), (2, .func (.func 37) #[] ⟨[]⟩), (7, .slice q1205 l1206 c1207)] H) k n911 q912 l913 c914 q915 l916 c917 n918 n919 H := by kernel_rfl
theorem color_change_v37_j0 {R : Type} (k : Nat) : JS Try.prog 83 (color_change_v37_a0 R k k) [0, 2, 7, 14, 15, 16] ⟨[], [(0, [0, 2, 7])], []⟩ (.loop (sel [1, 1, 0, 1, 0, 0] (Try.f39.body.getD .skip))) :=
  loop_ok (nt := 83) (c := (sel [1, 1, 0, 1, 0, 0] (Try.f39.body.getD .skip))) (C := color_change_v37_C R k) (an := An) (t := (.seq (.reg [0, 2, 7, 14, 15, 16, 17] []) (.seq (.cond .leaf .leaf) (.seq (.node (.seq (.reg [0, 2, 7, 9, 14, 15, 16] []) (.reg [0, 2, 7, 14, 15, 16] [[], [], [1], [], [], [4], [3, 4, 5], [1, 2, 3, 4, 5, 6], [1, 2, 3, 4, 5, 6, 7], [0, 1, 2, 3, 4, 5, 6, 7, 8], [0, 1, 2, 3, 4, 5, 6, 7, 8, 9]]))) (.reg [0, 2, 7, 14, 15, 16] []))))) (ic := color_change_v37_i0) (color_change_v37_S R k) (color_change_v37_J R k) (by kernel_rfl) (And.intro True.intro (And.intro (And.intro True.intro True.intro) (And.intro (And.intro True.intro True.intro) True.intro))) (color_change_v37_a0 R k) (fun vals H K => by unfold color_change_v37_a0 color_change_v37_aa0; split <;> rfl)
    (fun n vals H K r h => by
      unfold color_change_v37_a0 color_change_v37_aa0 at h
      split at h <;> first | (cases h; done) | exact Eq.trans (color_change_v37_e0 color_inverse (color_change_v37_l0 k) (color_change_v37_l1 k) (color_change_v37_l2 k) k n _ _ _ _ _ _ _ _ _ H K) h) k
def color_change_v37_ca {R : Type} (f : Int → Option Addr → Nat → Nat → Heap → (Option Addr → Nat → Nat → Heap → Option R) → Option R) (args : List Value) (H : Heap) (K : Value → Heap → Option R) : Option R :=
  match args with
  | [.int .i64 n907, .slice q908 l909 c910, .func (.func 37) ⟨[]⟩ ⟨[]⟩] => f n907 q908 l909 c910 H (fun q1217 l1218 c1219 H => K (.slice q1217 l1218 c1219) H)
  | _ => none
def color_change_v37_c (R : Type) (k : Nat) (args : List Value) (H : Heap) (K : Value → Heap → Option R) : Option R := color_change_v37_ca (color_change_v37 k) args H K
theorem color_change_v37_e {R : Type} (color_inverse : Int → Int → Int → Int → Heap → (Int → Int → Int → Heap → Option R) → Option R) (color_change_v37_l0 : (Int → Option Addr → Nat → Nat → Heap → Option R) → Nat → Int → Option Addr → Nat → Nat → Option Addr → Nat → Nat → Int → Int → Heap → Option R) (color_change_v37_l1 : (Option Addr → Nat → Nat → Heap → Option R) → Nat → Int → Option Addr → Nat → Nat → Int → Int → Heap → Option R) (color_change_v37_l2 : (Int → Option Addr → Nat → Nat → Int → Int → Heap → Option R) → Nat → Int → Option Addr → Nat → Nat → Int → Int → Int → Int → Int → Int → Int → Heap → Option R) (k : Nat) (n907 : Int) (q908 : Option Addr) (l909 : Nat) (c910 : Nat) (H : Heap) (K : Value → Heap → Option R) : evF (color_change_v37_Ct color_inverse) (color_change_v37_Jt k color_change_v37_l0 color_change_v37_l1 color_change_v37_l2) color_change_v37_f [.int .i64 n907, .slice q908 l909 c910, .func (.func 37) ⟨[]⟩ ⟨[]⟩] H K = color_change_v37_b color_change_v37_l0 color_change_v37_l1 k n907 q908 l909 c910 H (fun q1217 l1218 c1219 H => K (.slice q1217 l1218 c1219) H) := by kernel_rfl
theorem color_change_v37_cs (R : Type) (k : Nat) : ∀ args H K r, color_change_v37_c R k args H K = some r → ∃ v H', Tri Try.prog 39 args H v H' ∧ K v H' = some r := by
  intro args H K r h
  unfold color_change_v37_c color_change_v37_ca at h
  split at h
  · exact evF_ok (C := color_change_v37_C R k) (an := An) (t := color_change_v37_at) (fn := Try.f39) (c := (Try.f39.body.getD .skip)) (ifn := color_change_v37_f) (color_change_v37_S R k) (color_change_v37_J R k) Try.func39 (by kernel_rfl) (by kernel_rfl) (And.intro True.intro (And.intro True.intro (And.intro (And.intro True.intro (color_change_v37_j0 k)) (And.intro (And.intro True.intro (And.intro (And.intro True.intro True.intro) True.intro)) (And.intro (And.intro True.intro (color_change_v37_j1 k)) (And.intro True.intro True.intro)))))) rfl (Eq.trans (color_change_v37_e color_inverse (color_change_v37_l0 k) (color_change_v37_l1 k) (color_change_v37_l2 k) k _ _ _ _ H K) h)
  · cases h
/-! ### color_Undo: function 32 -/
def color_Undo_b {R : Type} (color_check : Int → Option Addr → Nat → Nat → Int → Heap → (Int → Heap → Option R) → Option R) (color_change_v37 : Int → Option Addr → Nat → Nat → Heap → (Option Addr → Nat → Nat → Heap → Option R) → Option R) (k : Nat) (n901 : Int) (q902 : Option Addr) (l903 : Nat) (c904 : Nat) (H : Heap) (K : Option Addr → Nat → Nat → Int → Heap → Option R) : Option R :=
color_check n901 q902 l903 c904 281474976710656 H fun n905 H906 =>
bif (n905 != 0) then (K none 0 0 n905 H906)
 else (color_change_v37 n901 q902 l903 c904 H906 fun q907 l908 c909 H910 =>
K q907 l908 c909 0 H910)

def color_Undo {R : Type} (k : Nat) (n901 : Int) (q902 : Option Addr) (l903 : Nat) (c904 : Nat) (H : Heap) (K : Option Addr → Nat → Nat → Int → Heap → Option R) : Option R := color_Undo_b (color_check k) (color_change_v37 k) k n901 q902 l903 c904 H K

def color_Undo_Ct {R : Type} (color_check : Int → Option Addr → Nat → Nat → Int → Heap → (Int → Heap → Option R) → Option R) (color_change_v37 : Int → Option Addr → Nat → Nat → Heap → (Option Addr → Nat → Nat → Heap → Option R) → Option R) : Tab R := tcons 38 (color_check_ca color_check) <| tcons 39 (color_change_v37_ca color_change_v37) <| fun _ _ _ _ => none
def color_Undo_C (R : Type) (k : Nat) : Tab R := color_Undo_Ct (color_check k) (color_change_v37 k)
theorem color_Undo_S (R : Type) (k : Nat) : CSound Try.prog (color_Undo_C R k) := csound_cons (color_check_cs R k) <| csound_cons (color_change_v37_cs R k) <| csound_nil
def color_Undo_Jt {R : Type} (k : Nat) : JTab R := fun _ _ _ _ => none
def color_Undo_J (R : Type) (k : Nat) : JTab R := color_Undo_Jt k
def color_Undo_at : AT := (.seq (.reg [0, 1] []) (.seq (.seq (.reg [0, 1, 6] []) (.seq (.reg [0, 1, 6, 11] []) (.cond (.seq (.reg [4, 5] []) .leaf) .leaf))) (.seq (.reg [4, 5] []) .leaf)))
def color_Undo_f : IFn := ⟨16, [.t 4, .t 5], (.seq (.reg [⟨some 4, .mov (.c (Go.Value.slice none 0 0)), none⟩,
 ⟨some 5, .mov (.c (Go.Value.int Go.IntKind.i64 0)), none⟩] [0, 1]) (.seq (.seq (.reg [⟨some 7, .mov (.t 0), none⟩,
 ⟨some 8, .mov (.t 1), none⟩,
 ⟨some 9, .call 38 [(.t 7), (.t 8), (.c (Go.Value.int Go.IntKind.i64 281474976710656))] (.one (.sc (.int .i64))), none⟩,
 ⟨some 6, .mov (.t 9), none⟩] [0, 1, 6]) (.seq (.reg [⟨some 10, .mov (.t 6), none⟩,
 ⟨some 11, .cmp .neq (.t 10) (.c (Go.Value.int Go.IntKind.i64 0)), none⟩] [0, 1, 6, 11]) (.cond (.t 11) (.seq (.reg [⟨some 12, .mov (.t 6), none⟩,
 ⟨some 4, .mov (.c (Go.Value.slice none 0 0)), none⟩,
 ⟨some 5, .mov (.t 12), none⟩] [4, 5]) .ret) .skip))) (.seq (.reg [⟨some 13, .mov (.t 0), none⟩,
 ⟨some 14, .mov (.t 1), none⟩,
 ⟨some 15, .call 39 [(.t 13), (.t 14), (.c (.func (.func 37) #[] #[]))] (.one (.sc .slc)), none⟩,
 ⟨some 4, .mov (.t 15), none⟩,
 ⟨some 5, .mov (.c (Go.Value.int Go.IntKind.i64 0)), none⟩] [4, 5]) .ret)))⟩
def color_Undo_ca {R : Type} (f : Int → Option Addr → Nat → Nat → Heap → (Option Addr → Nat → Nat → Int → Heap → Option R) → Option R) (args : List Value) (H : Heap) (K : Value → Heap → Option R) : Option R :=
  match args with
  | [.int .i64 n901, .slice q902 l903 c904] => f n901 q902 l903 c904 H (fun q1220 l1221 c1222 n1223 H => K (.tuple ⟨[.slice q1220 l1221 c1222, .int .i64 n1223]⟩) H)
  | _ => none
def color_Undo_c (R : Type) (k : Nat) (args : List Value) (H : Heap) (K : Value → Heap → Option R) : Option R := color_Undo_ca (color_Undo k) args H K
theorem color_Undo_e {R : Type} (color_check : Int → Option Addr → Nat → Nat → Int → Heap → (Int → Heap → Option R) → Option R) (color_change_v37 : Int → Option Addr → Nat → Nat → Heap → (Option Addr → Nat → Nat → Heap → Option R) → Option R) (k : Nat) (n901 : Int) (q902 : Option Addr) (l903 : Nat) (c904 : Nat) (H : Heap) (K : Value → Heap → Option R) : evF (color_Undo_Ct color_check color_change_v37) (color_Undo_Jt k) color_Undo_f [.int .i64 n901, .slice q902 l903 c904] H K = color_Undo_b color_check color_change_v37 k n901 q902 l903 c904 H (fun q1220 l1221 c1222 n1223 H => K (.tuple ⟨[.slice q1220 l1221 c1222, .int .i64 n1223]⟩) H) := by kernel_rfl
theorem color_Undo_cs (R : Type) (k : Nat) : ∀ args H K r, color_Undo_c R k args H K = some r → ∃ v H', Tri Try.prog 32 args H v H' ∧ K v H' = some r := by
  intro args H K r h
  unfold color_Undo_c color_Undo_ca at h
  split at h
  · exact evF_ok (C := color_Undo_C R k) (an := An) (t := color_Undo_at) (fn := Try.f32) (c := (Try.f32.body.getD .skip)) (ifn := color_Undo_f) (color_Undo_S R k) (color_Undo_J R k) Try.func32 (by kernel_rfl) (by kernel_rfl) (And.intro True.intro (And.intro (And.intro True.intro (And.intro True.intro (And.intro (And.intro True.intro True.intro) True.intro))) (And.intro True.intro True.intro))) rfl (Eq.trans (color_Undo_e (color_check k) (color_change_v37 k) k _ _ _ _ H K) h)
  · cases h
end Go.Proofs.Ytoeoolnkndkefaa.Sh
