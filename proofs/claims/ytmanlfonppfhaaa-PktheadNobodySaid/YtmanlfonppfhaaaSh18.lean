/- Lean functions that stand for Go's,over an explicit heap,and the proofs that they do (written by this claim's program shallow.py). -/
import Derived.Test.YtmanlfonppfhaaaSh0
import Derived.Test.YtmanlfonppfhaaaSh1
import Derived.Test.YtmanlfonppfhaaaSh3
import Derived.Test.YtmanlfonppfhaaaSh4
import Derived.Test.YtmanlfonppfhaaaSh7
set_option maxRecDepth 100000
set_option linter.unusedVariables false
set_option linter.unusedSimpArgs false
namespace Go.Proofs.Ytmanlfonppfhaaa.Sh
open Go.Proofs.Ytmanlfonppfhaaa.FW
/-! ### L_PktheadNobody: function 8 -/
abbrev L_PktheadNobody_p1_t (R : Type) : Type := Int → Oa → Oa → Nat → Nat → Int → Int → Heap → (Int → Oa → Oa → Nat → Nat → Int → Int → Heap → Option R) → (Bool → Heap → Option R) → Option R
def L_PktheadNobody_p1_b {R : Type} (pkthead_State_Encode : pkthead_State_Encode_t R) (pkthead_State_Decode : pkthead_State_Decode_t R) (pkthead_State_Plan : pkthead_State_Plan_t R) (pkthead_State_Blocks : pkthead_State_Blocks_t R) (pkthead_State_Passes : pkthead_State_Passes_t R) (pkthead_State_Clone : pkthead_State_Clone_t R) (k : Nat) (n1026 : Int) (p1027 : Oa) (q1028 : Oa) (l1029 : Nat) (c1030 : Nat) (n1031 : Int) (n1032 : Int) (H : Heap) (KN : Int → Oa → Oa → Nat → Nat → Int → Int → Heap → Option R) (KR : Bool → Heap → Option R) : Option R :=
hidx q1028 l1029 n1032 1 fun p1033 =>
ldP H p1033 fun p1034 =>
hfad 3 p1027 fun p1035 =>
ldL H p1035 fun q1036 l1037 c1038 =>
pkthead_State_Encode p1034 q1036 l1037 c1038 H fun q1039 l1040 c1041 n1042 H1043 =>
hfad 4 p1027 fun p1044 =>
ldL H1043 p1044 fun q1045 l1046 c1047 =>
pkthead_State_Decode p1034 q1045 l1046 c1047 H1043 fun q1048 l1049 c1050 n1051 n1052 H1053 =>
hfad 1 p1027 fun p1054 =>
ldL H1053 p1054 fun q1055 l1056 c1057 =>
hfad 2 p1027 fun p1058 =>
ldL H1053 p1058 fun q1059 l1060 c1061 =>
pkthead_State_Plan p1034 q1055 l1056 c1057 q1059 l1060 c1061 H1053 fun n1062 H1063 =>
bif (n1062 != 6) then (KR false H1063)
 else (bif (n1042 != 6) then (KR false H1063)
 else (bif (n1052 != 6) then (KR false H1063)
 else (bif (n1051 != 0) then (KR false H1063)
 else (bif (((l1049 : Nat) : Int) != 0) then (KR false H1063)
 else (pkthead_State_Blocks p1034 H1063 fun n1064 =>
bif (n1064 != 0) then (KR false H1063)
 else (pkthead_State_Passes p1034 n1026 H1063 fun n1065 =>
bif (n1065 != 0) then (KR false H1063)
 else (pkthead_State_Clone p1034 H1063 fun p1066 H1067 =>
bif p1066.isSome then (KR false H1067)
 else (KN n1026 p1027 q1028 l1029 c1030 n1031 n1032 H1067))))))))
def L_PktheadNobody_p1 {R : Type} (k : Nat) (n1026 : Int) (p1027 : Oa) (q1028 : Oa) (l1029 : Nat) (c1030 : Nat) (n1031 : Int) (n1032 : Int) (H : Heap) (KN : Int → Oa → Oa → Nat → Nat → Int → Int → Heap → Option R) (KR : Bool → Heap → Option R) : Option R := L_PktheadNobody_p1_b (pkthead_State_Encode k) (pkthead_State_Decode k) (pkthead_State_Plan k) pkthead_State_Blocks (pkthead_State_Passes k) (pkthead_State_Clone k) k n1026 p1027 q1028 l1029 c1030 n1031 n1032 H KN KR

abbrev L_PktheadNobody_l0_t (R : Type) : Type := (Heap → Option R) → (Bool → Heap → Option R) → Nat → Int → Oa → Oa → Nat → Nat → Int → Int → Heap → Option R
def L_PktheadNobody_l0_b {R : Type} (L_PktheadNobody_p1 : L_PktheadNobody_p1_t R) (rec : Int → Oa → Oa → Nat → Nat → Int → Int → Heap → Option R) (KE0 : Heap → Option R) (KR : Bool → Heap → Option R) (k : Nat) (n1019 : Int) (p1020 : Oa) (q1021 : Oa) (l1022 : Nat) (c1023 : Nat) (n1024 : Int) (n1025 : Int) (H : Heap) : Option R :=
bif decide (n1025 < n1024) then (L_PktheadNobody_p1 n1019 p1020 q1021 l1022 c1023 n1024 n1025 H (fun n1076 p1077 q1078 l1079 c1080 n1081 n1082 H1083 =>
rec n1076 p1077 q1078 l1079 c1080 n1081 (IntKind.wrap .i64 (n1082 + 1)) H1083) (fun t1084 H1085 =>
KR t1084 H1085))
 else (KE0 H)
def L_PktheadNobody_l0 {R : Type} (k : Nat) (KE0 : Heap → Option R) (KR : Bool → Heap → Option R) : Nat → Int → Oa → Oa → Nat → Nat → Int → Int → Heap → Option R
  | 0,_,_,_,_,_,_,_,_ => none
  | n + 1,n1019,p1020,q1021,l1022,c1023,n1024,n1025,H => L_PktheadNobody_l0_b (L_PktheadNobody_p1 k) (L_PktheadNobody_l0 k KE0 KR n) KE0 KR k n1019 p1020 q1021 l1022 c1023 n1024 n1025 H

abbrev L_PktheadNobody_t (R : Type) : Type := Int → Oa → Nat → Nat → Oa → Nat → Nat → Oa → Nat → Nat → Oa → Nat → Nat → Int → Heap → (Bool → Heap → Option R) → Option R

def L_PktheadNobody_b {R : Type} (L_PktheadNobody_l0 : L_PktheadNobody_l0_t R) (L_exampleHoldsq : L_exampleHoldsq_t R) (k : Nat) (n999 : Int) (q1000 : Oa) (l1001 : Nat) (c1002 : Nat) (q1003 : Oa) (l1004 : Nat) (c1005 : Nat) (q1006 : Oa) (l1007 : Nat) (c1008 : Nat) (q1009 : Oa) (l1010 : Nat) (c1011 : Nat) (n1012 : Int) (H : Heap) (K : Bool → Heap → Option R) : Option R :=
hal H [.int .i64 n999,.slice q1000 l1001 c1002,.slice q1003 l1004 c1005,.slice q1006 l1007 c1008,.slice q1009 l1010 c1011] fun p1013 H1014 =>
hal H1014 [.bool false,.bool false,.bool false,.bool false,.bool false,.bool false,.bool false,.bool false,.slice none 0 0,.slice none 0 0,.int .i64 0] fun p1015 H1016 =>
hal H1016 [.pointer none,.pointer p1015] fun p1017 H1018 =>
L_PktheadNobody_l0 (fun H1087 =>
L_exampleHoldsq fun t1088 =>
K t1088 H1087) (fun t1089 H1090 =>
K t1089 H1090) k n1012 p1013 p1017 2 2 ((2 : Nat) : Int) 0 H1018

def L_PktheadNobody {R : Type} (k : Nat) (n999 : Int) (q1000 : Oa) (l1001 : Nat) (c1002 : Nat) (q1003 : Oa) (l1004 : Nat) (c1005 : Nat) (q1006 : Oa) (l1007 : Nat) (c1008 : Nat) (q1009 : Oa) (l1010 : Nat) (c1011 : Nat) (n1012 : Int) (H : Heap) (K : Bool → Heap → Option R) : Option R := L_PktheadNobody_b (L_PktheadNobody_l0 k) L_exampleHoldsq k n999 q1000 l1001 c1002 q1003 l1004 c1005 q1006 l1007 c1008 q1009 l1010 c1011 n1012 H K

def L_PktheadNobody_Ct {R : Type} (pkthead_State_Encode : pkthead_State_Encode_t R) (pkthead_State_Decode : pkthead_State_Decode_t R) (pkthead_State_Plan : pkthead_State_Plan_t R) (pkthead_State_Blocks : pkthead_State_Blocks_t R) (pkthead_State_Passes : pkthead_State_Passes_t R) (pkthead_State_Clone : pkthead_State_Clone_t R) (L_exampleHoldsq : L_exampleHoldsq_t R) : Tab R := tcons 23 (pkthead_State_Encode_ca pkthead_State_Encode) <| tcons 16 (pkthead_State_Decode_ca pkthead_State_Decode) <| tcons 22 (pkthead_State_Plan_ca pkthead_State_Plan) <| tcons 12 (pkthead_State_Blocks_ca pkthead_State_Blocks) <| tcons 14 (pkthead_State_Passes_ca pkthead_State_Passes) <| tcons 27 (pkthead_State_Clone_ca pkthead_State_Clone) <| tcons 9 (L_exampleHoldsq_ca L_exampleHoldsq) <| fun _ _ _ _ => none
def L_PktheadNobody_C (R : Type) (k : Nat) : Tab R := L_PktheadNobody_Ct (pkthead_State_Encode k) (pkthead_State_Decode k) (pkthead_State_Plan k) pkthead_State_Blocks (pkthead_State_Passes k) (pkthead_State_Clone k) L_exampleHoldsq
theorem L_PktheadNobody_S (R : Type) (k : Nat) : CSound Try.prog (L_PktheadNobody_C R k) := csound_cons (pkthead_State_Encode_cs R k) <| csound_cons (pkthead_State_Decode_cs R k) <| csound_cons (pkthead_State_Plan_cs R k) <| csound_cons (pkthead_State_Blocks_cs R k) <| csound_cons (pkthead_State_Passes_cs R k) <| csound_cons (pkthead_State_Clone_cs R k) <| csound_cons (L_exampleHoldsq_cs R k) <| csound_nil
def L_PktheadNobody_aa0 {R : Type} (f : L_PktheadNobody_l0_t R) (n : Nat) (vals : List Value) (H : Heap) (K : Xit → Env → Heap → Option R) : Option R :=
  match vals with
  | [.int .i64 n1019,.pointer p1020,.slice q1021 l1022 c1023,.int .i64 n1024,.int .i64 n1025] => f (fun H => K (.exit 0) [] H) (fun t2377 H => K .ret [(4,.bool t2377)] H) n n1019 p1020 q1021 l1022 c1023 n1024 n1025 H
  | _ => none
def L_PktheadNobody_a0 (R : Type) (k n : Nat) (vals : List Value) (H : Heap) (K : Xit → Env → Heap → Option R) : Option R := L_PktheadNobody_aa0 (L_PktheadNobody_l0 k) n vals H K
def L_PktheadNobody_aa1 {R : Type} (f : L_PktheadNobody_p1_t R) (n : Nat) (vals : List Value) (H : Heap) (K : Xit → Env → Heap → Option R) : Option R :=
  match vals with
  | [.int .i64 n1026,.pointer p1027,.slice q1028 l1029 c1030,.int .i64 n1031,.int .i64 n1032] => f n1026 p1027 q1028 l1029 c1030 n1031 n1032 H (fun n2378 p2379 q2380 l2381 c2382 n2383 n2384 H => K .normal [(1,.int .i64 n2378),(2,.pointer p2379),(14,.slice q2380 l2381 c2382),(15,.int .i64 n2383),(16,.int .i64 n2384)] H) (fun t2385 H => K .ret [(4,.bool t2385)] H)
  | _ => none
def L_PktheadNobody_a1 (R : Type) (k n : Nat) (vals : List Value) (H : Heap) (K : Xit → Env → Heap → Option R) : Option R := L_PktheadNobody_aa1 (L_PktheadNobody_p1 k) n vals H K
def L_PktheadNobody_Jt {R : Type} (k : Nat) (L_PktheadNobody_l0 : L_PktheadNobody_l0_t R) (L_PktheadNobody_p1 : L_PktheadNobody_p1_t R) : JTab R := tcons 0 (L_PktheadNobody_aa0 L_PktheadNobody_l0 k) <| tcons 1 (L_PktheadNobody_aa1 L_PktheadNobody_p1 k) <| fun _ _ _ _ => none
def L_PktheadNobody_J (R : Type) (k : Nat) : JTab R := L_PktheadNobody_Jt k (L_PktheadNobody_l0 k) (L_PktheadNobody_p1 k)
def L_PktheadNobody_at : AT := (.seq (.reg [1,2] []) (.seq (.seq (.reg [1,2,14,15,16] []) (.node (.opq 0 [1,2,14,15,16] ⟨[],[(0,[])],[4]⟩ (.node (.seq (.reg [1,2,14,15,16,17] []) (.seq (.cond .leaf .leaf) (.seq (.opq 1 [1,2,14,15,16] ⟨[1,2,14,15,16],[],[4]⟩ (.node (.seq (.reg [1,2,6,14,15,16] []) (.seq (.reg [1,2,6,8,14,15,16] []) (.seq (.reg [1,2,6,8,9,10,11,14,15,16] []) (.seq (.reg [1,2,14,15,16,74] []) (.cond (.seq (.reg [4] []) .leaf) .leaf))))))) (.reg [1,2,14,15,16] [])))))))) (.seq (.reg [4] []) .leaf)))
def L_PktheadNobody_i1 : IC := (.block 1 (.seq (.reg [⟨some 18,.ids 1 (.t 14) (.t 16),none⟩,
⟨some 19,.ld (.sc .ptr) (.t 18),none⟩,
⟨some 6,.mov (.t 19),none⟩] [1,2,6,14,15,16]) (.seq (.reg [⟨some 21,.mov (.t 6),none⟩,
⟨some 22,.fad 3 (.t 2),none⟩,
⟨some 23,.ld (.sc .slc) (.t 22),none⟩,
⟨some 24,.call 23 [(.t 21),(.t 23)] (.tup [(.sc .slc),(.sc (.int .i64))]),none⟩,
⟨some 20,.mov (.t 24),none⟩,
⟨some 25,.ext 0 (.t 20),none⟩,
⟨some 26,.ext 1 (.t 20),none⟩,
⟨some 7,.mov (.t 25),none⟩,
⟨some 8,.mov (.t 26),none⟩] [1,2,6,8,14,15,16]) (.seq (.reg [⟨some 28,.mov (.t 6),none⟩,
⟨some 29,.fad 4 (.t 2),none⟩,
⟨some 30,.ld (.sc .slc) (.t 29),none⟩,
⟨some 31,.call 16 [(.t 28),(.t 30)] (.tup [(.sc .slc),(.sc (.int .i64)),(.sc (.int .i64))]),none⟩,
⟨some 27,.mov (.t 31),none⟩,
⟨some 32,.ext 0 (.t 27),none⟩,
⟨some 33,.ext 1 (.t 27),none⟩,
⟨some 34,.ext 2 (.t 27),none⟩,
⟨some 9,.mov (.t 32),none⟩,
⟨some 10,.mov (.t 33),none⟩,
⟨some 11,.mov (.t 34),none⟩] [1,2,6,8,9,10,11,14,15,16]) (.seq (.reg [⟨some 35,.mov (.t 6),none⟩,
⟨some 36,.fad 1 (.t 2),none⟩,
⟨some 37,.ld (.sc .slc) (.t 36),none⟩,
⟨some 38,.fad 2 (.t 2),none⟩,
⟨some 39,.ld (.sc .slc) (.t 38),none⟩,
⟨some 40,.call 22 [(.t 35),(.t 37),(.t 39)] (.one (.sc (.int .i64))),none⟩,
⟨some 41,.cmp .neq (.t 40) (.c (Go.Value.int Go.IntKind.i64 6)),none⟩,
⟨some 42,.mov (.t 41),none⟩,
⟨some 43,.mov (.t 8),some (42,false)⟩,
⟨some 44,.cmp .neq (.t 43) (.c (Go.Value.int Go.IntKind.i64 6)),some (42,false)⟩,
⟨some 45,.pick (.t 42) (.c (Go.Value.bool true)) (.t 44),none⟩,
⟨some 46,.mov (.t 45),none⟩,
⟨some 47,.mov (.t 11),some (46,false)⟩,
⟨some 48,.cmp .neq (.t 47) (.c (Go.Value.int Go.IntKind.i64 6)),some (46,false)⟩,
⟨some 49,.pick (.t 46) (.c (Go.Value.bool true)) (.t 48),none⟩,
⟨some 50,.mov (.t 49),none⟩,
⟨some 51,.mov (.t 10),some (50,false)⟩,
⟨some 52,.cmp .neq (.t 51) (.c (Go.Value.int Go.IntKind.i64 0)),some (50,false)⟩,
⟨some 53,.pick (.t 50) (.c (Go.Value.bool true)) (.t 52),none⟩,
⟨some 54,.mov (.t 53),none⟩,
⟨some 55,.mov (.t 9),some (54,false)⟩,
⟨some 56,.len false (.t 55),some (54,false)⟩,
⟨some 57,.cmp .neq (.t 56) (.c (Go.Value.int Go.IntKind.i64 0)),some (54,false)⟩,
⟨some 58,.pick (.t 54) (.c (Go.Value.bool true)) (.t 57),none⟩,
⟨some 59,.mov (.t 58),none⟩,
⟨some 60,.mov (.t 6),some (59,false)⟩,
⟨some 61,.call 12 [(.t 60)] (.one (.sc (.int .i64))),some (59,false)⟩,
⟨some 62,.cmp .neq (.t 61) (.c (Go.Value.int Go.IntKind.i64 0)),some (59,false)⟩,
⟨some 63,.pick (.t 59) (.c (Go.Value.bool true)) (.t 62),none⟩,
⟨some 64,.mov (.t 63),none⟩,
⟨some 65,.mov (.t 6),some (64,false)⟩,
⟨some 66,.mov (.t 1),some (64,false)⟩,
⟨some 67,.call 14 [(.t 65),(.t 66)] (.one (.sc (.int .i64))),some (64,false)⟩,
⟨some 68,.cmp .neq (.t 67) (.c (Go.Value.int Go.IntKind.i64 0)),some (64,false)⟩,
⟨some 69,.pick (.t 64) (.c (Go.Value.bool true)) (.t 68),none⟩,
⟨some 70,.mov (.t 69),none⟩,
⟨some 71,.mov (.t 6),some (70,false)⟩,
⟨some 72,.call 27 [(.t 71)] (.one (.sc .ptr)),some (70,false)⟩,
⟨some 73,.eqnil (.t 72) true 0,some (70,false)⟩,
⟨some 74,.pick (.t 70) (.c (Go.Value.bool true)) (.t 73),none⟩] [1,2,14,15,16,74]) (.cond (.t 74) (.seq (.reg [⟨some 4,.mov (.c (Go.Value.bool false)),none⟩] [4]) .ret) .skip))))))
def L_PktheadNobody_i0 : IC := (.seq (.reg [⟨some 17,.cmp .lss (.t 16) (.t 15),none⟩] [1,2,14,15,16,17]) (.seq (.cond (.t 17) .skip (.exit 0)) (.seq (.opq 1 [1,2,14,15,16] L_PktheadNobody_i1) (.reg [⟨some 75,.bin .add .i64 (.t 16) (.c (Go.Value.int Go.IntKind.i64 1)),none⟩,
⟨some 16,.mov (.t 75),none⟩] [1,2,14,15,16]))))
def L_PktheadNobody_f : IFn := ⟨77,[.t 4],(.seq (.reg [⟨some 2,.box (.t 0),none⟩,
⟨some 4,.mov (.c (Go.Value.bool false)),none⟩] [1,2]) (.seq (.seq (.reg [⟨some 12,.bld [.bool false,.bool false,.bool false,.bool false,.bool false,.bool false,.bool false,.bool false,.slice none 0 0,.slice none 0 0,.int .i64 0] [],none⟩,
⟨some 13,.box (.t 12),none⟩,
⟨some 14,.bls 2 [.pointer none,.pointer none] [(0,1,(.c (Go.Value.pointer none))),(1,1,(.t 13))],none⟩,
⟨some 15,.len false (.t 14),none⟩,
⟨some 16,.mov (.c (Go.Value.int Go.IntKind.i64 0)),none⟩] [1,2,14,15,16]) (.block 0 (.opq 0 [1,2,14,15,16] (.loop L_PktheadNobody_i0)))) (.seq (.reg [⟨some 76,.call 9 [] (.one (.sc .bool)),none⟩,
⟨some 4,.mov (.t 76),none⟩] [4]) .ret)))⟩
theorem L_PktheadNobody_e1 {R : Type} (pkthead_State_Encode : pkthead_State_Encode_t R) (pkthead_State_Decode : pkthead_State_Decode_t R) (pkthead_State_Plan : pkthead_State_Plan_t R) (pkthead_State_Blocks : pkthead_State_Blocks_t R) (pkthead_State_Passes : pkthead_State_Passes_t R) (pkthead_State_Clone : pkthead_State_Clone_t R) (L_exampleHoldsq : L_exampleHoldsq_t R) (L_PktheadNobody_l0 : L_PktheadNobody_l0_t R) (L_PktheadNobody_p1 : L_PktheadNobody_p1_t R) (k : Nat) (n1026 : Int) (p1027 : Oa) (q1028 : Oa) (l1029 : Nat) (c1030 : Nat) (n1031 : Int) (n1032 : Int) (H : Heap) (K : Xit → Env → Heap → Option R) : evJ (L_PktheadNobody_Ct pkthead_State_Encode pkthead_State_Decode pkthead_State_Plan pkthead_State_Blocks pkthead_State_Passes pkthead_State_Clone L_exampleHoldsq) (L_PktheadNobody_Jt k L_PktheadNobody_l0 L_PktheadNobody_p1) L_PktheadNobody_i1 (List.zip [1,2,14,15,16] [.int .i64 n1026,.pointer p1027,.slice q1028 l1029 c1030,.int .i64 n1031,.int .i64 n1032]) H (fun x e' H' => K x (clean e' ((⟨[1,2,14,15,16],[],[4]⟩ : Out).of x)) H') = L_PktheadNobody_p1_b pkthead_State_Encode pkthead_State_Decode pkthead_State_Plan pkthead_State_Blocks pkthead_State_Passes pkthead_State_Clone k n1026 p1027 q1028 l1029 c1030 n1031 n1032 H (fun n2378 p2379 q2380 l2381 c2382 n2383 n2384 H => K .normal [(1,.int .i64 n2378),(2,.pointer p2379),(14,.slice q2380 l2381 c2382),(15,.int .i64 n2383),(16,.int .i64 n2384)] H) (fun t2385 H => K .ret [(4,.bool t2385)] H) := by kernel_rfl
theorem L_PktheadNobody_j1 {R : Type} (k : Nat) : JS Try.prog 77 (L_PktheadNobody_a1 R k k) [1,2,14,15,16] ⟨[1,2,14,15,16],[],[4]⟩ (sel [1,0,1,0,0,1,1,0] (Try.f8.body.getD .skip)) :=
  piece_ok (nt := 77) (c := (sel [1,0,1,0,0,1,1,0] (Try.f8.body.getD .skip))) (C := L_PktheadNobody_C R k) (an := An) (t := (.node (.seq (.reg [1,2,6,14,15,16] []) (.seq (.reg [1,2,6,8,14,15,16] []) (.seq (.reg [1,2,6,8,9,10,11,14,15,16] []) (.seq (.reg [1,2,14,15,16,74] []) (.cond (.seq (.reg [4] []) .leaf) .leaf))))))) (ic := L_PktheadNobody_i1) (L_PktheadNobody_S R k) (L_PktheadNobody_J R k) (by kernel_rfl) (And.intro True.intro (And.intro True.intro (And.intro True.intro (And.intro True.intro (And.intro (And.intro True.intro True.intro) True.intro))))) (L_PktheadNobody_a1 R k k)
    (fun vals H K r h => by
      unfold L_PktheadNobody_a1 L_PktheadNobody_aa1 at h
      split at h <;> first | (cases h; done) | exact Eq.trans (L_PktheadNobody_e1 (pkthead_State_Encode k) (pkthead_State_Decode k) (pkthead_State_Plan k) pkthead_State_Blocks (pkthead_State_Passes k) (pkthead_State_Clone k) L_exampleHoldsq (L_PktheadNobody_l0 k) (L_PktheadNobody_p1 k) k _ _ _ _ _ _ _ H K) h)
theorem L_PktheadNobody_e0 {R : Type} (pkthead_State_Encode : pkthead_State_Encode_t R) (pkthead_State_Decode : pkthead_State_Decode_t R) (pkthead_State_Plan : pkthead_State_Plan_t R) (pkthead_State_Blocks : pkthead_State_Blocks_t R) (pkthead_State_Passes : pkthead_State_Passes_t R) (pkthead_State_Clone : pkthead_State_Clone_t R) (L_exampleHoldsq : L_exampleHoldsq_t R) (L_PktheadNobody_l0 : L_PktheadNobody_l0_t R) (L_PktheadNobody_p1 : L_PktheadNobody_p1_t R) (k n : Nat) (n1019 : Int) (p1020 : Oa) (q1021 : Oa) (l1022 : Nat) (c1023 : Nat) (n1024 : Int) (n1025 : Int) (H : Heap) (K : Xit → Env → Heap → Option R) : evJ (L_PktheadNobody_Ct pkthead_State_Encode pkthead_State_Decode pkthead_State_Plan pkthead_State_Blocks pkthead_State_Passes pkthead_State_Clone L_exampleHoldsq) (L_PktheadNobody_Jt k L_PktheadNobody_l0 L_PktheadNobody_p1) L_PktheadNobody_i0 (List.zip [1,2,14,15,16] [.int .i64 n1019,.pointer p1020,.slice q1021 l1022 c1023,.int .i64 n1024,.int .i64 n1025]) H (fun x e' H' => match x with | .normal => L_PktheadNobody_aa0 L_PktheadNobody_l0 n ((clean e' [1,2,14,15,16]).map (·.2)) H' K | x => K x (clean e' ((⟨[],[(0,[])],[4]⟩ : Out).of x)) H') = L_PktheadNobody_l0_b L_PktheadNobody_p1 (L_PktheadNobody_l0 (fun H => K (.exit 0) [] H) (fun t2377 H => K .ret [(4,.bool t2377)] H) n) (fun H => K (.exit 0) [] H) (fun t2377 H => K .ret [(4,.bool t2377)] H) k n1019 p1020 q1021 l1022 c1023 n1024 n1025 H := by kernel_rfl
theorem L_PktheadNobody_j0 {R : Type} (k : Nat) : JS Try.prog 77 (L_PktheadNobody_a0 R k k) [1,2,14,15,16] ⟨[],[(0,[])],[4]⟩ (.loop (sel [1,0,1,0,0] (Try.f8.body.getD .skip))) :=
  loop_ok (nt := 77) (c := (sel [1,0,1,0,0] (Try.f8.body.getD .skip))) (C := L_PktheadNobody_C R k) (an := An) (t := (.seq (.reg [1,2,14,15,16,17] []) (.seq (.cond .leaf .leaf) (.seq (.opq 1 [1,2,14,15,16] ⟨[1,2,14,15,16],[],[4]⟩ (.node (.seq (.reg [1,2,6,14,15,16] []) (.seq (.reg [1,2,6,8,14,15,16] []) (.seq (.reg [1,2,6,8,9,10,11,14,15,16] []) (.seq (.reg [1,2,14,15,16,74] []) (.cond (.seq (.reg [4] []) .leaf) .leaf))))))) (.reg [1,2,14,15,16] []))))) (ic := L_PktheadNobody_i0) (L_PktheadNobody_S R k) (L_PktheadNobody_J R k) (by kernel_rfl) (And.intro True.intro (And.intro (And.intro True.intro True.intro) (And.intro (L_PktheadNobody_j1 k) True.intro))) (L_PktheadNobody_a0 R k) (fun vals H K => by unfold L_PktheadNobody_a0 L_PktheadNobody_aa0; split <;> rfl)
    (fun n vals H K r h => by
      unfold L_PktheadNobody_a0 L_PktheadNobody_aa0 at h
      split at h <;> first | (cases h; done) | exact Eq.trans (L_PktheadNobody_e0 (pkthead_State_Encode k) (pkthead_State_Decode k) (pkthead_State_Plan k) pkthead_State_Blocks (pkthead_State_Passes k) (pkthead_State_Clone k) L_exampleHoldsq (L_PktheadNobody_l0 k) (L_PktheadNobody_p1 k) k n _ _ _ _ _ _ _ H K) h) k
def L_PktheadNobody_ca {R : Type} (f : L_PktheadNobody_t R) (args : List Value) (H : Heap) (K : Value → Heap → Option R) : Option R :=
  match args with
  | [.agg ⟨[.int .i64 n999,.slice q1000 l1001 c1002,.slice q1003 l1004 c1005,.slice q1006 l1007 c1008,.slice q1009 l1010 c1011]⟩,.int .i64 n1012] => f n999 q1000 l1001 c1002 q1003 l1004 c1005 q1006 l1007 c1008 q1009 l1010 c1011 n1012 H (fun t2386 H => K (.bool t2386) H)
  | _ => none
def L_PktheadNobody_c (R : Type) (k : Nat) (args : List Value) (H : Heap) (K : Value → Heap → Option R) : Option R := L_PktheadNobody_ca (L_PktheadNobody k) args H K
theorem L_PktheadNobody_e {R : Type} (pkthead_State_Encode : pkthead_State_Encode_t R) (pkthead_State_Decode : pkthead_State_Decode_t R) (pkthead_State_Plan : pkthead_State_Plan_t R) (pkthead_State_Blocks : pkthead_State_Blocks_t R) (pkthead_State_Passes : pkthead_State_Passes_t R) (pkthead_State_Clone : pkthead_State_Clone_t R) (L_exampleHoldsq : L_exampleHoldsq_t R) (L_PktheadNobody_l0 : L_PktheadNobody_l0_t R) (L_PktheadNobody_p1 : L_PktheadNobody_p1_t R) (k : Nat) (n999 : Int) (q1000 : Oa) (l1001 : Nat) (c1002 : Nat) (q1003 : Oa) (l1004 : Nat) (c1005 : Nat) (q1006 : Oa) (l1007 : Nat) (c1008 : Nat) (q1009 : Oa) (l1010 : Nat) (c1011 : Nat) (n1012 : Int) (H : Heap) (K : Value → Heap → Option R) : evF (L_PktheadNobody_Ct pkthead_State_Encode pkthead_State_Decode pkthead_State_Plan pkthead_State_Blocks pkthead_State_Passes pkthead_State_Clone L_exampleHoldsq) (L_PktheadNobody_Jt k L_PktheadNobody_l0 L_PktheadNobody_p1) L_PktheadNobody_f [.agg ⟨[.int .i64 n999,.slice q1000 l1001 c1002,.slice q1003 l1004 c1005,.slice q1006 l1007 c1008,.slice q1009 l1010 c1011]⟩,.int .i64 n1012] H K = L_PktheadNobody_b L_PktheadNobody_l0 L_exampleHoldsq k n999 q1000 l1001 c1002 q1003 l1004 c1005 q1006 l1007 c1008 q1009 l1010 c1011 n1012 H (fun t2386 H => K (.bool t2386) H) := by kernel_rfl
theorem L_PktheadNobody_cs (R : Type) (k : Nat) : ∀ args H K r,L_PktheadNobody_c R k args H K = some r → ∃ v H',Tri Try.prog 8 args H v H' ∧ K v H' = some r := by
  intro args H K r h
  unfold L_PktheadNobody_c L_PktheadNobody_ca at h
  split at h
  · exact evF_ok (C := L_PktheadNobody_C R k) (an := An) (t := L_PktheadNobody_at) (fn := Try.f8) (c := (Try.f8.body.getD .skip)) (ifn := L_PktheadNobody_f) (L_PktheadNobody_S R k) (L_PktheadNobody_J R k) Try.func8 (by kernel_rfl) (by kernel_rfl) (And.intro True.intro (And.intro (And.intro True.intro (L_PktheadNobody_j0 k)) (And.intro True.intro True.intro))) rfl (Eq.trans (L_PktheadNobody_e (pkthead_State_Encode k) (pkthead_State_Decode k) (pkthead_State_Plan k) pkthead_State_Blocks (pkthead_State_Passes k) (pkthead_State_Clone k) L_exampleHoldsq (L_PktheadNobody_l0 k) (L_PktheadNobody_p1 k) k _ _ _ _ _ _ _ _ _ _ _ _ _ _ H K) h)
  · cases h
end Go.Proofs.Ytmanlfonppfhaaa.Sh
