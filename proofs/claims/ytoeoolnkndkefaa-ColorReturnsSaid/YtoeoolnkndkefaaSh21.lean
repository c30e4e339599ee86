/- Lean functions that stand for Go's, over an explicit heap, and the proofs that they do (written by this claim's program shallow.py). -/
import Derived.Test.YtoeoolnkndkefaaSh0
import Derived.Test.YtoeoolnkndkefaaSh2
import Derived.Test.YtoeoolnkndkefaaSh3
import Derived.Test.YtoeoolnkndkefaaSh4
import Derived.Test.YtoeoolnkndkefaaSh9
import Derived.Test.YtoeoolnkndkefaaSh13
set_option maxRecDepth 100000
set_option linter.unusedVariables false
set_option linter.unusedSimpArgs false
namespace Go.Proofs.Ytoeoolnkndkefaa.Sh
open Go.Proofs.Ytoeoolnkndkefaa.FW
/-! ### L_ColorReturns: function 10 -/
def L_ColorReturns_p0_b {R : Type} (R02_SameAll : Option Addr → Nat → Nat → Option Addr → Nat → Nat → Heap → (Bool → Heap → Option R) → Option R) (k : Nat) (n933 : Int) (q934 : Option Addr) (l935 : Nat) (c936 : Nat) (q937 : Option Addr) (l938 : Nat) (c939 : Nat) (q940 : Option Addr) (l941 : Nat) (c942 : Nat) (n943 : Int) (H : Heap) (KN : Int → Option Addr → Nat → Nat → Option Addr → Nat → Nat → Heap → Option R) (KR : Bool → Heap → Option R) : Option R :=
bif (n943 != 0) then (KR false H)
 else (R02_SameAll q940 l941 c942 q934 l935 c936 H fun t944 H945 =>
bif (!t944) then (KR false H945)
 else (bif (((l938 : Nat) : Int) != ((l935 : Nat) : Int)) then (KR false H945)
 else (KN n933 q934 l935 c936 q937 l938 c939 H945)))
def L_ColorReturns_p0 {R : Type} (k : Nat) (n933 : Int) (q934 : Option Addr) (l935 : Nat) (c936 : Nat) (q937 : Option Addr) (l938 : Nat) (c939 : Nat) (q940 : Option Addr) (l941 : Nat) (c942 : Nat) (n943 : Int) (H : Heap) (KN : Int → Option Addr → Nat → Nat → Option Addr → Nat → Nat → Heap → Option R) (KR : Bool → Heap → Option R) : Option R := L_ColorReturns_p0_b (R02_SameAll k) k n933 q934 l935 c936 q937 l938 c939 q940 l941 c942 n943 H KN KR

def L_ColorReturns_l1_b {R : Type} (R02_Same : Int → Int → Int → Int → Option Addr → Nat → Nat → Int → Int → Int → Int → Option Addr → Nat → Nat → Heap → (Bool → Heap → Option R) → Option R) (rec : Int → Option Addr → Nat → Nat → Option Addr → Nat → Nat → Int → Heap → Option R) (KE0 : Int → Option Addr → Nat → Nat → Heap → Option R) (KR : Bool → Heap → Option R) (k : Nat) (n962 : Int) (q963 : Option Addr) (l964 : Nat) (c965 : Nat) (q966 : Option Addr) (l967 : Nat) (c968 : Nat) (n969 : Int) (H : Heap) : Option R :=
bif decide (n969 < ((l967 : Nat) : Int)) then (hidx q966 l967 n969 5 fun p970 =>
ldI .i64 H (pad p970 0) fun n971 =>
ldI .i64 H (pad p970 1) fun n972 =>
ldI .i64 H (pad p970 2) fun n973 =>
ldI .i64 H (pad p970 3) fun n974 =>
ldL H (pad p970 4) fun q975 l976 c977 =>
hidx q963 l964 n969 5 fun p978 =>
ldI .i64 H (pad p978 0) fun n979 =>
ldI .i64 H (pad p978 1) fun n980 =>
ldI .i64 H (pad p978 2) fun n981 =>
ldI .i64 H (pad p978 3) fun n982 =>
ldL H (pad p978 4) fun q983 l984 c985 =>
R02_Same n971 n972 n973 n974 q975 l976 c977 n979 n980 n981 n982 q983 l984 c985 H fun t986 H987 =>
bif (!t986) then (KR false H987)
 else (rec n962 q963 l964 c965 q966 l967 c968 (IntKind.wrap .i64 (n969 + 1)) H987))
 else (KE0 n962 q963 l964 c965 H)
def L_ColorReturns_l1 {R : Type} (k : Nat) (KE0 : Int → Option Addr → Nat → Nat → Heap → Option R) (KR : Bool → Heap → Option R) : Nat → Int → Option Addr → Nat → Nat → Option Addr → Nat → Nat → Int → Heap → Option R
  | 0, _, _, _, _, _, _, _, _, _ => none
  | n + 1, n962, q963, l964, c965, q966, l967, c968, n969, H => L_ColorReturns_l1_b (R02_Same k) (L_ColorReturns_l1 k KE0 KR n) KE0 KR k n962 q963 l964 c965 q966 l967 c968 n969 H

def L_ColorReturns_b {R : Type} (L_few : Option Addr → Nat → Nat → Heap → (Bool → Heap → Option R) → Option R) (L_exampleHoldsq : (Bool → Option R) → Option R) (color_Apply : Int → Option Addr → Nat → Nat → Heap → (Option Addr → Nat → Nat → Int → Heap → Option R) → Option R) (color_Undo : Int → Option Addr → Nat → Nat → Heap → (Option Addr → Nat → Nat → Int → Heap → Option R) → Option R) (L_ColorReturns_p0 : Int → Option Addr → Nat → Nat → Option Addr → Nat → Nat → Option Addr → Nat → Nat → Int → Heap → (Int → Option Addr → Nat → Nat → Option Addr → Nat → Nat → Heap → Option R) → (Bool → Heap → Option R) → Option R) (L_ColorReturns_l1 : (Int → Option Addr → Nat → Nat → Heap → Option R) → (Bool → Heap → Option R) → Nat → Int → Option Addr → Nat → Nat → Option Addr → Nat → Nat → Int → Heap → Option R) (R02_SameAll : Option Addr → Nat → Nat → Option Addr → Nat → Nat → Heap → (Bool → Heap → Option R) → Option R) (k : Nat) (n915 : Int) (q916 : Option Addr) (l917 : Nat) (c918 : Nat) (H : Heap) (K : Bool → Heap → Option R) : Option R :=
L_few q916 l917 c918 H fun t919 H920 =>
bif (!t919) then (L_exampleHoldsq fun t921 =>
K t921 H920)
 else (color_Apply n915 q916 l917 c918 H920 fun q922 l923 c924 n925 H926 =>
bif (n925 != 0) then (bif (((l923 : Nat) : Int) == 0) then (L_exampleHoldsq fun t927 =>
K t927 H926)
 else (K false H926))
 else (color_Undo n915 q922 l923 c924 H926 fun q928 l929 c930 n931 H932 =>
L_ColorReturns_p0 n915 q916 l917 c918 q922 l923 c924 q928 l929 c930 n931 H932 (fun n954 q955 l956 c957 q958 l959 c960 H961 =>
L_ColorReturns_l1 (fun n993 q994 l995 c996 H997 =>
color_Undo n993 q994 l995 c996 H997 fun q998 l999 c1000 n1001 H1002 =>
bif (n1001 != 0) then (K false H1002)
 else (color_Apply n993 q998 l999 c1000 H1002 fun q1003 l1004 c1005 n1006 H1007 =>
bif (n1006 != 0) then (bif (n1006 == 2) then (L_exampleHoldsq fun t1008 =>
K t1008 H1007)
 else (K false H1007))
 else (R02_SameAll q1003 l1004 c1005 q994 l995 c996 H1007 fun t1009 H1010 =>
bif t1009 then (L_exampleHoldsq fun t1011 =>
K t1011 H1010)
 else (K false H1010)))) (fun t1012 H1013 =>
K t1012 H1013) k n954 q955 l956 c957 q958 l959 c960 3 H961) (fun t1014 H1015 =>
K t1014 H1015)))

def L_ColorReturns {R : Type} (k : Nat) (n915 : Int) (q916 : Option Addr) (l917 : Nat) (c918 : Nat) (H : Heap) (K : Bool → Heap → Option R) : Option R := L_ColorReturns_b (L_few k) L_exampleHoldsq (color_Apply k) (color_Undo k) (L_ColorReturns_p0 k) (L_ColorReturns_l1 k) (R02_SameAll k) k n915 q916 l917 c918 H K

def L_ColorReturns_Ct {R : Type} (L_few : Option Addr → Nat → Nat → Heap → (Bool → Heap → Option R) → Option R) (L_exampleHoldsq : (Bool → Option R) → Option R) (color_Apply : Int → Option Addr → Nat → Nat → Heap → (Option Addr → Nat → Nat → Int → Heap → Option R) → Option R) (color_Undo : Int → Option Addr → Nat → Nat → Heap → (Option Addr → Nat → Nat → Int → Heap → Option R) → Option R) (R02_SameAll : Option Addr → Nat → Nat → Option Addr → Nat → Nat → Heap → (Bool → Heap → Option R) → Option R) (R02_Same : Int → Int → Int → Int → Option Addr → Nat → Nat → Int → Int → Int → Int → Option Addr → Nat → Nat → Heap → (Bool → Heap → Option R) → Option R) : Tab R := tcons 17 (L_few_ca L_few) <| tcons 12 (L_exampleHoldsq_ca L_exampleHoldsq) <| tcons 18 (color_Apply_ca color_Apply) <| tcons 32 (color_Undo_ca color_Undo) <| tcons 20 (R02_SameAll_ca R02_SameAll) <| tcons 26 (R02_Same_ca R02_Same) <| fun _ _ _ _ => none
def L_ColorReturns_C (R : Type) (k : Nat) : Tab R := L_ColorReturns_Ct (L_few k) L_exampleHoldsq (color_Apply k) (color_Undo k) (R02_SameAll k) (R02_Same k)
theorem L_ColorReturns_S (R : Type) (k : Nat) : CSound Try.prog (L_ColorReturns_C R k) := csound_cons (L_few_cs R k) <| csound_cons (L_exampleHoldsq_cs R k) <| csound_cons (color_Apply_cs R k) <| csound_cons (color_Undo_cs R k) <| csound_cons (R02_SameAll_cs R k) <| csound_cons (R02_Same_cs R k) <| csound_nil
def L_ColorReturns_aa0 {R : Type} (f : Int → Option Addr → Nat → Nat → Option Addr → Nat → Nat → Option Addr → Nat → Nat → Int → Heap → (Int → Option Addr → Nat → Nat → Option Addr → Nat → Nat → Heap → Option R) → (Bool → Heap → Option R) → Option R) (n : Nat) (vals : List Value) (H : Heap) (K : Xit → Env → Heap → Option R) : Option R :=
  match vals with
  | [.int .i64 n933, .slice q934 l935 c936, .slice q937 l938 c939, .slice q940 l941 c942, .int .i64 n943] => f n933 q934 l935 c936 q937 l938 c939 q940 l941 c942 n943 H (fun n1400 q1401 l1402 c1403 q1404 l1405 c1406 H => K .normal [(0, .int .i64 n1400), (1, .slice q1401 l1402 c1403), (5, .slice q1404 l1405 c1406)] H) (fun t1407 H => K .ret [(4, .bool t1407)] H)
  | _ => none
def L_ColorReturns_a0 (R : Type) (k n : Nat) (vals : List Value) (H : Heap) (K : Xit → Env → Heap → Option R) : Option R := L_ColorReturns_aa0 (L_ColorReturns_p0 k) n vals H K
def L_ColorReturns_aa1 {R : Type} (f : (Int → Option Addr → Nat → Nat → Heap → Option R) → (Bool → Heap → Option R) → Nat → Int → Option Addr → Nat → Nat → Option Addr → Nat → Nat → Int → Heap → Option R) (n : Nat) (vals : List Value) (H : Heap) (K : Xit → Env → Heap → Option R) : Option R :=
  match vals with
  | [.int .i64 n962, .slice q963 l964 c965, .slice q966 l967 c968, .int .i64 n969] => f (fun n1408 q1409 l1410 c1411 H => K (.exit 0) [(0, .int .i64 n1408), (1, .slice q1409 l1410 c1411)] H) (fun t1412 H => K .ret [(4, .bool t1412)] H) n n962 q963 l964 c965 q966 l967 c968 n969 H
  | _ => none
def L_ColorReturns_a1 (R : Type) (k n : Nat) (vals : List Value) (H : Heap) (K : Xit → Env → Heap → Option R) : Option R := L_ColorReturns_aa1 (L_ColorReturns_l1 k) n vals H K
def L_ColorReturns_Jt {R : Type} (k : Nat) (L_ColorReturns_p0 : Int → Option Addr → Nat → Nat → Option Addr → Nat → Nat → Option Addr → Nat → Nat → Int → Heap → (Int → Option Addr → Nat → Nat → Option Addr → Nat → Nat → Heap → Option R) → (Bool → Heap → Option R) → Option R) (L_ColorReturns_l1 : (Int → Option Addr → Nat → Nat → Heap → Option R) → (Bool → Heap → Option R) → Nat → Int → Option Addr → Nat → Nat → Option Addr → Nat → Nat → Int → Heap → Option R) : JTab R := tcons 0 (L_ColorReturns_aa0 L_ColorReturns_p0 k) <| tcons 1 (L_ColorReturns_aa1 L_ColorReturns_l1 k) <| fun _ _ _ _ => none
def L_ColorReturns_J (R : Type) (k : Nat) : JTab R := L_ColorReturns_Jt k (L_ColorReturns_p0 k) (L_ColorReturns_l1 k)
def L_ColorReturns_at : AT := (.seq (.reg [0, 1] []) (.seq (.seq (.reg [0, 1, 16] []) (.cond (.seq (.reg [4] []) .leaf) .leaf)) (.seq (.reg [0, 1, 5, 6] []) (.seq (.seq (.reg [0, 1, 5, 25] []) (.cond (.seq (.reg [4] []) .leaf) .leaf)) (.seq (.reg [0, 1, 5, 7, 8] []) (.seq (.opq 0 [0, 1, 5, 7, 8] ⟨[0, 1, 5], [], [4]⟩ (.seq (.reg [0, 1, 5, 52] []) (.cond (.seq (.reg [4] []) .leaf) .leaf))) (.seq (.seq (.reg [0, 1, 5, 9] []) (.node (.opq 1 [0, 1, 5, 9] ⟨[], [(0, [0, 1])], [4]⟩ (.node (.seq (.seq (.reg [0, 1, 5, 9, 56] []) (.cond .leaf .leaf)) (.seq (.node (.seq (.reg [0, 1, 5, 9, 68] [[], [], [0, 1], [0, 1, 2], [], [], [4, 5], [4, 5, 6], [0, 1, 2, 3, 4, 5, 6, 7], [0, 1, 2, 3, 4, 5, 6, 7, 8]]) (.cond (.seq (.reg [4] []) .leaf) .leaf))) (.reg [0, 1, 5, 9] []))))))) (.seq (.reg [0, 1, 10, 11] []) (.seq (.seq (.reg [0, 1, 10, 76] []) (.cond (.seq (.reg [4] []) .leaf) .leaf)) (.seq (.reg [1, 12, 13] []) (.seq (.seq (.reg [1, 12, 13, 84] []) (.cond (.seq (.reg [4] []) .leaf) .leaf)) (.seq (.reg [4] []) .leaf))))))))))))
def L_ColorReturns_i1 : IC := (.seq (.seq (.reg [⟨some 53, .mov (.t 9), none⟩,
 ⟨some 54, .mov (.t 5), none⟩,
 ⟨some 55, .len false (.t 54), none⟩,
 ⟨some 56, .cmp .lss (.t 53) (.t 55), none⟩] [0, 1, 5, 9, 56]) (.cond (.t 56) .skip (.exit 0))) (.seq (.block 1 (.seq (.reg [⟨some 59, .mov (.t 5), none⟩,
 ⟨some 60, .mov (.t 9), none⟩,
 ⟨some 61, .ids 5 (.t 59) (.t 60), none⟩,
 ⟨some 62, .ld (.agg [(.int .i64), (.int .i64), (.int .i64), (.int .i64), .slc]) (.t 61), none⟩,
 ⟨some 63, .mov (.t 1), none⟩,
 ⟨some 64, .mov (.t 9), none⟩,
 ⟨some 65, .ids 5 (.t 63) (.t 64), none⟩,
 ⟨some 66, .ld (.agg [(.int .i64), (.int .i64), (.int .i64), (.int .i64), .slc]) (.t 65), none⟩,
 ⟨some 67, .call 26 [(.t 62), (.t 66)] (.one (.sc .bool)), none⟩,
 ⟨some 68, .lnot (.t 67), none⟩] [0, 1, 5, 9, 68]) (.cond (.t 68) (.seq (.reg [⟨some 4, .mov (.c (Go.Value.bool false)), none⟩] [4]) .ret) .skip))) (.reg [⟨some 57, .mov (.t 9), none⟩,
 ⟨some 58, .bin .add .i64 (.t 57) (.c (Go.Value.int Go.IntKind.i64 1)), none⟩,
 ⟨some 9, .mov (.t 58), none⟩] [0, 1, 5, 9])))
def L_ColorReturns_i0 : IC := (.seq (.reg [⟨some 38, .mov (.t 8), none⟩,
 ⟨some 39, .cmp .neq (.t 38) (.c (Go.Value.int Go.IntKind.i64 0)), none⟩,
 ⟨some 40, .mov (.t 39), none⟩,
 ⟨some 41, .mov (.t 7), some (40, false)⟩,
 ⟨some 42, .mov (.t 1), some (40, false)⟩,
 ⟨some 43, .call 20 [(.t 41), (.t 42)] (.one (.sc .bool)), some (40, false)⟩,
 ⟨some 44, .lnot (.t 43), some (40, false)⟩,
 ⟨some 45, .pick (.t 40) (.c (Go.Value.bool true)) (.t 44), none⟩,
 ⟨some 46, .mov (.t 45), none⟩,
 ⟨some 47, .mov (.t 5), some (46, false)⟩,
 ⟨some 48, .len false (.t 47), some (46, false)⟩,
 ⟨some 49, .mov (.t 1), some (46, false)⟩,
 ⟨some 50, .len false (.t 49), some (46, false)⟩,
 ⟨some 51, .cmp .neq (.t 48) (.t 50), some (46, false)⟩,
 ⟨some 52, .pick (.t 46) (.c (Go.Value.bool true)) (.t 51), none⟩] [0, 1, 5, 52]) (.cond (.t 52) (.seq (.reg [⟨some 4, .mov (.c (Go.Value.bool false)), none⟩] [4]) .ret) .skip))
def L_ColorReturns_f : IFn := ⟨96, [.t 4], (.seq (.reg [⟨some 4, .mov (.c (Go.Value.bool false)), none⟩] [0, 1]) (.seq (.seq (.reg [⟨some 14, .mov (.t 1), none⟩,
 ⟨some 15, .call 17 [(.t 14)] (.one (.sc .bool)), none⟩,
 ⟨some 16, .lnot (.t 15), none⟩] [0, 1, 16]) (.cond (.t 16) (.seq (.reg [⟨some 17, .call 12 [] (.one (.sc .bool)), none⟩,
 ⟨some 4, .mov (.t 17), none⟩] [4]) .ret) .skip)) (.seq (.reg [⟨some 19, .mov (.t 0), none⟩,
 ⟨some 20, .mov (.t 1), none⟩,
 ⟨some 21, .call 18 [(.t 19), (.t 20)] (.tup [(.sc .slc), (.sc (.int .i64))]), none⟩,
 ⟨some 18, .mov (.t 21), none⟩,
 ⟨some 22, .ext 0 (.t 18), none⟩,
 ⟨some 23, .ext 1 (.t 18), none⟩,
 ⟨some 5, .mov (.t 22), none⟩,
 ⟨some 6, .mov (.t 23), none⟩] [0, 1, 5, 6]) (.seq (.seq (.reg [⟨some 24, .mov (.t 6), none⟩,
 ⟨some 25, .cmp .neq (.t 24) (.c (Go.Value.int Go.IntKind.i64 0)), none⟩] [0, 1, 5, 25]) (.cond (.t 25) (.seq (.reg [⟨some 26, .mov (.t 5), none⟩,
 ⟨some 27, .len false (.t 26), none⟩,
 ⟨some 28, .cmp .eql (.t 27) (.c (Go.Value.int Go.IntKind.i64 0)), none⟩,
 ⟨some 29, .mov (.t 28), none⟩,
 ⟨some 30, .call 12 [] (.one (.sc .bool)), some (29, true)⟩,
 ⟨some 31, .pick (.t 29) (.t 30) (.c (Go.Value.bool false)), none⟩,
 ⟨some 4, .mov (.t 31), none⟩] [4]) .ret) .skip)) (.seq (.reg [⟨some 33, .mov (.t 0), none⟩,
 ⟨some 34, .mov (.t 5), none⟩,
 ⟨some 35, .call 32 [(.t 33), (.t 34)] (.tup [(.sc .slc), (.sc (.int .i64))]), none⟩,
 ⟨some 32, .mov (.t 35), none⟩,
 ⟨some 36, .ext 0 (.t 32), none⟩,
 ⟨some 37, .ext 1 (.t 32), none⟩,
 ⟨some 7, .mov (.t 36), none⟩,
 ⟨some 8, .mov (.t 37), none⟩] [0, 1, 5, 7, 8]) (.seq (.opq 0 [0, 1, 5, 7, 8] L_ColorReturns_i0) (.seq (.seq (.reg [⟨some 9, .mov (.c (Go.Value.int Go.IntKind.i64 3)), none⟩] [0, 1, 5, 9]) (.block 0 (.opq 1 [0, 1, 5, 9] (.loop L_ColorReturns_i1)))) (.seq (.reg [⟨some 70, .mov (.t 0), none⟩,
 ⟨some 71, .mov (.t 1), none⟩,
 ⟨some 72, .call 32 [(.t 70), (.t 71)] (.tup [(.sc .slc), (.sc (.int .i64))]), none⟩,
 ⟨some 69, .mov (.t 72), none⟩,
 ⟨some 73, .ext 0 (.t 69), none⟩,
 ⟨some 74, .ext 1 (.t 69), none⟩,
 ⟨some 10, .mov (.t 73), none⟩,
 ⟨some 11, .mov (.t 74), none⟩] [0, 1, 10, 11]) (.seq (.seq (.reg [⟨some 75, .mov (.t 11), none⟩,
 ⟨some 76, .cmp .neq (.t 75) (.c (Go.Value.int Go.IntKind.i64 0)), none⟩] [0, 1, 10, 76]) (.cond (.t 76) (.seq (.reg [⟨some 4, .mov (.c (Go.Value.bool false)), none⟩] [4]) .ret) .skip)) (.seq (.reg [⟨some 78, .mov (.t 0), none⟩,
 ⟨some 79, .mov (.t 10), none⟩,
 ⟨some 80, .call 18 [(.t 78), (.t 79)] (.tup [(.sc .slc), (.sc (.int .i64))]), none⟩,
 ⟨some 77, .mov (.t 80), none⟩,
 ⟨some 81, .ext 0 (.t 77), none⟩,
 ⟨some 82, .ext 1 (.t 77), none⟩,
 ⟨some 12, .mov (.t 81), none⟩,
 ⟨some 13, .mov (.t 82), none⟩] [1, 12, 13]) (.seq (.seq (.reg [⟨some 83, .mov (.t 13), none⟩,
 ⟨some 84, .cmp .neq (.t 83) (.c (Go.Value.int Go.IntKind.i64 0)), none⟩] [1, 12, 13, 84]) (.cond (.t 84) (.seq (.reg [⟨some 85, .mov (.t 13), none⟩,
 ⟨some 86, .cmp .eql (.t 85) (.c (Go.Value.int Go.IntKind.i64 2)), none⟩,
 ⟨some 87, .mov (.t 86), none⟩,
 ⟨some 88, .call 12 [] (.one (.sc .bool)), some (87, true)⟩,
 ⟨some 89, .pick (.t 87) (.t 88) (.c (Go.Value.bool false)), none⟩,
 ⟨some 4, .mov (.t 89), none⟩] [4]) .ret) .skip)) (.seq (.reg [⟨some 90, .mov (.t 12), none⟩,
 ⟨some 91, .mov (.t 1), none⟩,
 ⟨some 92, .call 20 [(.t 90), (.t 91)] (.one (.sc .bool)), none⟩,
 ⟨some 93, .mov (.t 92), none⟩,
 ⟨some 94, .call 12 [] (.one (.sc .bool)), some (93, true)⟩,
 ⟨some 95, .pick (.t 93) (.t 94) (.c (Go.Value.bool false)), none⟩,
 ⟨some 4, .mov (.t 95), none⟩] [4]) .ret))))))))))))⟩
theorem L_ColorReturns_e1 {R : Type} (L_few : Option Addr → Nat → Nat → Heap → (Bool → Heap → Option R) → Option R) (L_exampleHoldsq : (Bool → Option R) → Option R) (color_Apply : Int → Option Addr → Nat → Nat → Heap → (Option Addr → Nat → Nat → Int → Heap → Option R) → Option R) (color_Undo : Int → Option Addr → Nat → Nat → Heap → (Option Addr → Nat → Nat → Int → Heap → Option R) → Option R) (R02_SameAll : Option Addr → Nat → Nat → Option Addr → Nat → Nat → Heap → (Bool → Heap → Option R) → Option R) (R02_Same : Int → Int → Int → Int → Option Addr → Nat → Nat → Int → Int → Int → Int → Option Addr → Nat → Nat → Heap → (Bool → Heap → Option R) → Option R) (L_ColorReturns_p0 : Int → Option Addr → Nat → Nat → Option Addr → Nat → Nat → Option Addr → Nat → Nat → Int → Heap → (Int → Option Addr → Nat → Nat → Option Addr → Nat → Nat → Heap → Option R) → (Bool → Heap → Option R) → Option R) (L_ColorReturns_l1 : (Int → Option Addr → Nat → Nat → Heap → Option R) → (Bool → Heap → Option R) → Nat → Int → Option Addr → Nat → Nat → Option Addr → Nat → Nat → Int → Heap → Option R) (k n : Nat) (n962 : Int) (q963 : Option Addr) (l964 : Nat) (c965 : Nat) (q966 : Option Addr) (l967 : Nat) (c968 : Nat) (n969 : Int) (H : Heap) (K : Xit → Env → Heap → Option R) : evJ (L_ColorReturns_Ct L_few L_exampleHoldsq color_Apply color_Undo R02_SameAll R02_Same) (L_ColorReturns_Jt k L_ColorReturns_p0 L_ColorReturns_l1) L_ColorReturns_i1 (List.zip [0, 1, 5, 9] [.int .i64 n962, .slice q963 l964 c965, .slice q966 l967 c968, .int .i64 n969]) H (fun x e' H' => match x with | .normal => L_ColorReturns_aa1 L_ColorReturns_l1 n ((clean e' [0, 1, 5, 9]).map (·.2)) H' K | x => K x (clean e' ((⟨[], [(0, [0, 1])], [4]⟩ : Out).of x)) H') = L_ColorReturns_l1_b R02_Same (L_ColorReturns_l1 (fun n1408 q1409 l1410 c1411 H => K (.exit 0) [(0, .int .i64 n1408), (1, .slice q1409 l1410 c1411)] H) (fun t1412 H => K .ret [(4, .bool t1412)] H) n) (fun n1408 q1409 l1410 c1411 H => K (.exit 0) [(0, .int .i64 n1408), (1, .slice q1409 l1410 c1411)] H) (fun t1412 H => K .ret [(4, .bool t1412)] H) k n962 q963 l964 c965 q966 l967 c968 n969 H := by kernel_rfl
theorem L_ColorReturns_j1 {R : Type} (k : Nat) : JS Try.prog 96 (L_ColorReturns_a1 R k k) [0, 1, 5, 9] ⟨[], [(0, [0, 1])], [4]⟩ (.loop (sel [1, 1, 1, 1, 1, 1, 0, 1, 0, 0] (Try.f10.body.getD .skip))) :=
  loop_ok (nt := 96) (c := (sel [1, 1, 1, 1, 1, 1, 0, 1, 0, 0] (Try.f10.body.getD .skip))) (C := L_ColorReturns_C R k) (an := An) (t := (.seq (.seq (.reg [0, 1, 5, 9, 56] []) (.cond .leaf .leaf)) (.seq (.node (.seq (.reg [0, 1, 5, 9, 68] [[], [], [0, 1], [0, 1, 2], [], [], [4, 5], [4, 5, 6], [0, 1, 2, 3, 4, 5, 6, 7], [0, 1, 2, 3, 4, 5, 6, 7, 8]]) (.cond (.seq (.reg [4] []) .leaf) .leaf))) (.reg [0, 1, 5, 9] [])))) (ic := L_ColorReturns_i1) (L_ColorReturns_S R k) (L_ColorReturns_J R k) (by kernel_rfl) (And.intro (And.intro True.intro (And.intro True.intro True.intro)) (And.intro (And.intro True.intro (And.intro (And.intro True.intro True.intro) True.intro)) True.intro)) (L_ColorReturns_a1 R k) (fun vals H K => by unfold L_ColorReturns_a1 L_ColorReturns_aa1; split <;> rfl)
    (fun n vals H K r h => by
      unfold L_ColorReturns_a1 L_ColorReturns_aa1 at h
      split at h <;> first | (cases h; done) | exact Eq.trans (L_ColorReturns_e1 (L_few k) L_exampleHoldsq (color_Apply k) (color_Undo k) (R02_SameAll k) (R02_Same k) (L_ColorReturns_p0 k) (L_ColorReturns_l1 k) k n _ _ _ _ _ _ _ _ H K) h) k
theorem L_ColorReturns_e0 {R : Type} (L_few : Option Addr → Nat → Nat → Heap → (Bool → Heap → Option R) → Option R) (L_exampleHoldsq : (Bool → Option R) → Option R) (color_Apply : Int → Option Addr → Nat → Nat → Heap → (Option Addr → Nat → Nat → Int → Heap → Option R) → Option R) (color_Undo : Int → Option Addr → Nat → Nat → Heap → (Option Addr → Nat → Nat → Int → Heap → Option R) → Option R) (R02_SameAll : Option Addr → Nat → Nat → Option Addr → Nat → Nat → Heap → (Bool → Heap → Option R) → Option R) (R02_Same : Int → Int → Int → Int → Option Addr → Nat → Nat → Int → Int → Int → Int → Option Addr → Nat → Nat → Heap → (Bool → Heap → Option R) → Option R) (L_ColorReturns_p0 : Int → Option Addr → Nat → Nat → Option Addr → Nat → Nat → Option Addr → Nat → Nat → Int → Heap → (Int → Option Addr → Nat → Nat → Option Addr → Nat → Nat → Heap → Option R) → (Bool → Heap → Option R) → Option R) (L_ColorReturns_l1 : (Int → Option Addr → Nat → Nat → Heap → Option R) → (Bool → Heap → Option R) → Nat → Int → Option Addr → Nat → Nat → Option Addr → Nat → Nat → Int → Heap → Option R) (k : Nat) (n933 : Int) (q934 : Option Addr) (l935 : Nat) (c936 : Nat) (q937 : Option Addr) (l938 : Nat) (c939 : Nat) (q940 : Option Addr) (l941 : Nat) (c942 : Nat) (n943 : Int) (H : Heap) (K : Xit → Env → Heap → Option R) : evJ (L_ColorReturns_Ct L_few L_exampleHoldsq color_Apply color_Undo R02_SameAll R02_Same) (L_ColorReturns_Jt k L_ColorReturns_p0 L_ColorReturns_l1) L_ColorReturns_i0 (List.zip [0, 1, 5, 7, 8] [.int .i64 n933, .slice q934 l935 c936, .slice q937 l938 c939, .slice q940 l941 c942, .int .i64 n943]) H (fun x e' H' => K x (clean e' ((⟨[0, 1, 5], [], [4]⟩ : Out).of x)) H') = L_ColorReturns_p0_b R02_SameAll k n933 q934 l935 c936 q937 l938 c939 q940 l941 c942 n943 H (fun n1400 q1401 l1402 c1403 q1404 l1405 c1406 H => K .normal [(0, .int .i64 n1400), (1, .slice q1401 l1402 c1403), (5, .slice q1404 l1405 c1406)] H) (fun t1407 H => K .ret [(4, .bool t1407)] H) := by kernel_rfl
theorem L_ColorReturns_j0 {R : Type} (k : Nat) : JS Try.prog 96 (L_ColorReturns_a0 R k k) [0, 1, 5, 7, 8] ⟨[0, 1, 5], [], [4]⟩ (sel [1, 1, 1, 1, 1, 0] (Try.f10.body.getD .skip)) :=
  piece_ok (nt := 96) (c := (sel [1, 1, 1, 1, 1, 0] (Try.f10.body.getD .skip))) (C := L_ColorReturns_C R k) (an := An) (t := (.seq (.reg [0, 1, 5, 52] []) (.cond (.seq (.reg [4] []) .leaf) .leaf))) (ic := L_ColorReturns_i0) (L_ColorReturns_S R k) (L_ColorReturns_J R k) (by kernel_rfl) (And.intro True.intro (And.intro (And.intro True.intro True.intro) True.intro)) (L_ColorReturns_a0 R k k)
    (fun vals H K r h => by
      unfold L_ColorReturns_a0 L_ColorReturns_aa0 at h
      split at h <;> first | (cases h; done) | exact Eq.trans (L_ColorReturns_e0 (L_few k) L_exampleHoldsq (color_Apply k) (color_Undo k) (R02_SameAll k) (R02_Same k) (L_ColorReturns_p0 k) (L_ColorReturns_l1 k) k _ _ _ _ _ _ _ _ _ _ _ H K) h)
def L_ColorReturns_ca {R : Type} (f : Int → Option Addr → Nat → Nat → Heap → (Bool → Heap → Option R) → Option R) (args : List Value) (H : Heap) (K : Value → Heap → Option R) : Option R :=
  match args with
  | [.int .i64 n915, .slice q916 l917 c918] => f n915 q916 l917 c918 H (fun t1413 H => K (.bool t1413) H)
  | _ => none
def L_ColorReturns_c (R : Type) (k : Nat) (args : List Value) (H : Heap) (K : Value → Heap → Option R) : Option R := L_ColorReturns_ca (L_ColorReturns k) args H K
theorem L_ColorReturns_e {R : Type} (L_few : Option Addr → Nat → Nat → Heap → (Bool → Heap → Option R) → Option R) (L_exampleHoldsq : (Bool → Option R) → Option R) (color_Apply : Int → Option Addr → Nat → Nat → Heap → (Option Addr → Nat → Nat → Int → Heap → Option R) → Option R) (color_Undo : Int → Option Addr → Nat → Nat → Heap → (Option Addr → Nat → Nat → Int → Heap → Option R) → Option R) (R02_SameAll : Option Addr → Nat → Nat → Option Addr → Nat → Nat → Heap → (Bool → Heap → Option R) → Option R) (R02_Same : Int → Int → Int → Int → Option Addr → Nat → Nat → Int → Int → Int → Int → Option Addr → Nat → Nat → Heap → (Bool → Heap → Option R) → Option R) (L_ColorReturns_p0 : Int → Option Addr → Nat → Nat → Option Addr → Nat → Nat → Option Addr → Nat → Nat → Int → Heap → (Int → Option Addr → Nat → Nat → Option Addr → Nat → Nat → Heap → Option R) → (Bool → Heap → Option R) → Option R) (L_ColorReturns_l1 : (Int → Option Addr → Nat → Nat → Heap → Option R) → (Bool → Heap → Option R) → Nat → Int → Option Addr → Nat → Nat → Option Addr → Nat → Nat → Int → Heap → Option R) (k : Nat) (n915 : Int) (q916 : Option Addr) (l917 : Nat) (c918 : Nat) (H : Heap) (K : Value → Heap → Option R) : evF (L_ColorReturns_Ct L_few L_exampleHoldsq color_Apply color_Undo R02_SameAll R02_Same) (L_ColorReturns_Jt k L_ColorReturns_p0 L_ColorReturns_l1) L_ColorReturns_f [.int .i64 n915, .slice q916 l917 c918] H K = L_ColorReturns_b L_few L_exampleHoldsq color_Apply color_Undo L_ColorReturns_p0 L_ColorReturns_l1 R02_SameAll k n915 q916 l917 c918 H (fun t1413 H => K (.bool t1413) H) := by kernel_rfl
theorem L_ColorReturns_cs (R : Type) (k : Nat) : ∀ args H K r, L_ColorReturns_c R k args H K = some r → ∃ v H', Tri Try.prog 10 args H v H' ∧ K v H' = some r := by
  intro args H K r h
  unfold L_ColorReturns_c L_ColorReturns_ca at h
  split at h
  · exact evF_ok (C := L_ColorReturns_C R k) (an := An) (t := L_ColorReturns_at) (fn := Try.f10) (c := (Try.f10.body.getD .skip)) (ifn := L_ColorReturns_f) (L_ColorReturns_S R k) (L_ColorReturns_J R k) Try.func10 (by kernel_rfl) (by kernel_rfl) (And.intro True.intro (And.intro (And.intro True.intro (And.intro (And.intro True.intro True.intro) True.intro)) (And.intro True.intro (And.intro (And.intro True.intro (And.intro (And.intro True.intro True.intro) True.intro)) (And.intro True.intro (And.intro (L_ColorReturns_j0 k) (And.intro (And.intro True.intro (L_ColorReturns_j1 k)) (And.intro True.intro (And.intro (And.intro True.intro (And.intro (And.intro True.intro True.intro) True.intro)) (And.intro True.intro (And.intro (And.intro True.intro (And.intro (And.intro True.intro True.intro) True.intro)) (And.intro True.intro True.intro)))))))))))) rfl (Eq.trans (L_ColorReturns_e (L_few k) L_exampleHoldsq (color_Apply k) (color_Undo k) (R02_SameAll k) (R02_Same k) (L_ColorReturns_p0 k) (L_ColorReturns_l1 k) k _ _ _ _ H K) h)
  · cases h
end Go.Proofs.Ytoeoolnkndkefaa.Sh
