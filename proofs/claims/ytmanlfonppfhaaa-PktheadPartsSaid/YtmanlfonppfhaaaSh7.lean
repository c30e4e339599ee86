/- Lean functions that stand for Go's,over an explicit heap,and the proofs that they do (written by this claim's program shallow.py). -/
import Derived.Test.YtmanlfonppfhaaaSh0
import Derived.Test.YtmanlfonppfhaaaSh1
import Derived.Test.YtmanlfonppfhaaaSh3
import Derived.Test.YtmanlfonppfhaaaSh4
import Derived.Test.YtmanlfonppfhaaaSh5
import Derived.Test.YtmanlfonppfhaaaSh6
set_option maxRecDepth 100000
set_option linter.unusedVariables false
set_option linter.unusedSimpArgs false
namespace Go.Proofs.Ytmanlfonppfhaaa.Sh
open Go.Proofs.Ytmanlfonppfhaaa.FW
abbrev pkthead_State_lengths_l0_t (R:Type):Type:=(Oa → Oa → Oa → Int → Int → Oa → Nat → Nat → Heap → Option R) → (Oa → Int → Heap → Option R) → Nat → Oa → Oa → Oa → Oa → Int → Int → Oa → Nat → Nat → Oa → Oa → Oa → Nat → Nat → Int → Int → Heap → Option R
def pkthead_State_lengths_l0_b {R:Type} (pkthead_width:pkthead_width_t R) (bitio_Reader_Bits:bitio_Reader_Bits_t R) (pkthead_State_lengths_1:pkthead_State_lengths_1_t R) (rec:Oa → Oa → Oa → Oa → Int → Int → Oa → Nat → Nat → Oa → Oa → Oa → Nat → Nat → Int → Int → Heap → Option R) (KE0:Oa → Oa → Oa → Int → Int → Oa → Nat → Nat → Heap → Option R) (KR:Oa → Int → Heap → Option R) (k:Nat) (p1034:Oa) (p1035:Oa) (p1036:Oa) (p1037:Oa) (n1038:Int) (n1039:Int) (q1040:Oa) (l1041:Nat) (c1042:Nat) (p1043:Oa) (p1044:Oa) (q1045:Oa) (l1046:Nat) (c1047:Nat) (n1048:Int) (n1049:Int) (H:Heap):Option R :=
bif decide (n1049 < n1048) then (hidx q1045 l1046 n1049 1 fun p1050 =>
ldI .i64 H p1050 fun n1051 =>
ldP H p1035 fun p1052 =>
hnil p1052 fun p1053 =>
hfad 7 p1053 fun p1054 =>
ldI .i64 H p1054 fun n1055 =>
pkthead_width n1051 fun n1056 =>
bitio_Reader_Bits p1034 (IntKind.wrap .i64 ((IntKind.wrap .i64 (n1055 + n1039)) + n1056)) H fun n1057 n1058 H1059 =>
bif (n1058 != 0) then (ldI .i64 H1059 (pad p1037 0) fun n1060 =>
ldI .i64 H1059 (pad p1037 1) fun n1061 =>
ldL H1059 (pad p1037 2) fun q1062 l1063 c1064 =>
hst H1059 p1036 [.int .i64 n1060,.int .i64 n1061,.slice q1062 l1063 c1064] fun H1065 =>
KR p1036 n1058 H1065)
 else (pkthead_State_lengths_1 n1057 p1043 p1044 H1059 fun H1066 =>
rec p1034 p1035 p1036 p1037 n1038 n1039 q1040 l1041 c1042 p1043 p1044 q1045 l1046 c1047 n1048 (IntKind.wrap .i64 (n1049 + 1)) H1066))
 else (KE0 p1035 p1036 p1037 n1038 n1039 q1040 l1041 c1042 H)
def pkthead_State_lengths_l0 {R:Type} (k:Nat) (KE0:Oa → Oa → Oa → Int → Int → Oa → Nat → Nat → Heap → Option R) (KR:Oa → Int → Heap → Option R):Nat → Oa → Oa → Oa → Oa → Int → Int → Oa → Nat → Nat → Oa → Oa → Oa → Nat → Nat → Int → Int → Heap → Option R
  | 0,_,_,_,_,_,_,_,_,_,_,_,_,_,_,_,_,_ => none
  | n + 1,p1034,p1035,p1036,p1037,n1038,n1039,q1040,l1041,c1042,p1043,p1044,q1045,l1046,c1047,n1048,n1049,H => pkthead_State_lengths_l0_b (pkthead_width k) (bitio_Reader_Bits k) pkthead_State_lengths_1 (pkthead_State_lengths_l0 k KE0 KR n) KE0 KR k p1034 p1035 p1036 p1037 n1038 n1039 q1040 l1041 c1042 p1043 p1044 q1045 l1046 c1047 n1048 n1049 H
abbrev pkthead_State_lengths_p1_t (R:Type):Type:=Oa → Oa → Oa → Int → Int → Oa → Nat → Nat → Heap → (Oa → Oa → Oa → Int → Int → Bool → Option R) → Option R
def pkthead_State_lengths_p1_b {R:Type} (pkthead_suffices:pkthead_suffices_t R) (k:Nat) (p1086:Oa) (p1087:Oa) (p1088:Oa) (n1089:Int) (n1090:Int) (q1091:Oa) (l1092:Nat) (c1093:Nat) (H:Heap) (KN:Oa → Oa → Oa → Int → Int → Bool → Option R):Option R :=
bif decide (n1090 > 0) then (ldP H p1086 fun p1094 =>
hnil p1094 fun p1095 =>
hfad 7 p1095 fun p1096 =>
ldI .i64 H p1096 fun n1097 =>
hfad 2 p1088 fun p1098 =>
ldL H p1098 fun q1099 l1100 c1101 =>
pkthead_suffices (IntKind.wrap .i64 ((IntKind.wrap .i64 (n1097 + n1090)) - 1)) q1091 l1092 c1093 q1099 l1100 c1101 H fun t1102 =>
bif t1102 then (KN p1086 p1087 p1088 n1089 n1090 true)
 else (ldP H p1086 fun p1103 =>
hnil p1103 fun p1104 =>
hfad 6 p1104 fun p1105 =>
ldI .i64 H p1105 fun n1106 =>
KN p1086 p1087 p1088 n1089 n1090 (decide (n1106 > 65535))))
 else (ldP H p1086 fun p1107 =>
hnil p1107 fun p1108 =>
hfad 6 p1108 fun p1109 =>
ldI .i64 H p1109 fun n1110 =>
KN p1086 p1087 p1088 n1089 n1090 (decide (n1110 > 65535)))
def pkthead_State_lengths_p1 {R:Type} (k:Nat) (p1086:Oa) (p1087:Oa) (p1088:Oa) (n1089:Int) (n1090:Int) (q1091:Oa) (l1092:Nat) (c1093:Nat) (H:Heap) (KN:Oa → Oa → Oa → Int → Int → Bool → Option R):Option R:=pkthead_State_lengths_p1_b (pkthead_suffices k) k p1086 p1087 p1088 n1089 n1090 q1091 l1092 c1093 H KN
abbrev pkthead_State_lengths_t (R:Type):Type:=Oa → Oa → Oa → Heap → (Int → Int → Oa → Nat → Nat → Int → Heap → Option R) → Option R
def pkthead_State_lengths_b {R:Type} (bitio_Reader_Gamma:bitio_Reader_Gamma_t R) (bitio_Reader_Unary:bitio_Reader_Unary_t R) (pkthead_Parts:pkthead_Parts_t R) (pkthead_State_lengths_l0:pkthead_State_lengths_l0_t R) (pkthead_State_lengths_p1:pkthead_State_lengths_p1_t R) (k:Nat) (p941:Oa) (p942:Oa) (p943:Oa) (H:Heap) (K:Int → Int → Oa → Nat → Nat → Int → Heap → Option R):Option R :=
hal H [.pointer p943] fun p944 H945 =>
hal H945 [.int .i64 0,.int .i64 0,.slice none 0 0] fun p946 H947 =>
ldP H947 p944 fun p948 =>
hnil p948 fun p949 =>
hfad 4 p949 fun p950 =>
ldI .i64 H947 p950 fun n951 =>
hal H947 [.int .i64 0,.int .i64 0,.slice none 0 0] fun p952 H953 =>
hst H953 p952 [.int .i64 n951,.int .i64 0,.slice none 0 0] fun H954 =>
bitio_Reader_Gamma p942 H954 fun n955 n956 H957 =>
bif (n956 != 0) then (ldI .i64 H957 (pad p952 0) fun n958 =>
ldI .i64 H957 (pad p952 1) fun n959 =>
ldL H957 (pad p952 2) fun q960 l961 c962 =>
hst H957 p946 [.int .i64 n958,.int .i64 n959,.slice q960 l961 c962] fun H963 =>
ldI .i64 H963 (pad p946 0) fun n964 =>
ldI .i64 H963 (pad p946 1) fun n965 =>
ldL H963 (pad p946 2) fun q966 l967 c968 =>
K n964 n965 q966 l967 c968 n956 H963)
 else (ldP H957 p944 fun p969 =>
hnil p969 fun p970 =>
hfad 4 p970 fun p971 =>
ldI .i64 H957 p971 fun n972 =>
ldP H957 p944 fun p973 =>
hnil p973 fun p974 =>
hfad 5 p974 fun p975 =>
ldI .i64 H957 p975 fun n976 =>
bif decide (n955 > (IntKind.wrap .i64 ((IntKind.wrap .i64 ((IntKind.wrap .i64 (3 * n972)) - 2)) - n976))) then (ldI .i64 H957 (pad p952 0) fun n977 =>
ldI .i64 H957 (pad p952 1) fun n978 =>
ldL H957 (pad p952 2) fun q979 l980 c981 =>
hst H957 p946 [.int .i64 n977,.int .i64 n978,.slice q979 l980 c981] fun H982 =>
ldI .i64 H982 (pad p946 0) fun n983 =>
ldI .i64 H982 (pad p946 1) fun n984 =>
ldL H982 (pad p946 2) fun q985 l986 c987 =>
K n983 n984 q985 l986 c987 15 H982)
 else (bitio_Reader_Unary p942 65535 H957 fun n988 n989 H990 =>
bif (n989 != 0) then (ldI .i64 H990 (pad p952 0) fun n991 =>
ldI .i64 H990 (pad p952 1) fun n992 =>
ldL H990 (pad p952 2) fun q993 l994 c995 =>
hst H990 p946 [.int .i64 n991,.int .i64 n992,.slice q993 l994 c995] fun H996 =>
ldI .i64 H996 (pad p946 0) fun n997 =>
ldI .i64 H996 (pad p946 1) fun n998 =>
ldL H996 (pad p946 2) fun q999 l1000 c1001 =>
K n997 n998 q999 l1000 c1001 n989 H996)
 else (ldP H990 p944 fun p1002 =>
hnil p1002 fun p1003 =>
hfad 7 p1003 fun p1004 =>
ldI .i64 H990 p1004 fun n1005 =>
bif decide ((IntKind.wrap .i64 (n1005 + n988)) > 16) then (ldI .i64 H990 (pad p952 0) fun n1006 =>
ldI .i64 H990 (pad p952 1) fun n1007 =>
ldL H990 (pad p952 2) fun q1008 l1009 c1010 =>
hst H990 p946 [.int .i64 n1006,.int .i64 n1007,.slice q1008 l1009 c1010] fun H1011 =>
ldI .i64 H1011 (pad p946 0) fun n1012 =>
ldI .i64 H1011 (pad p946 1) fun n1013 =>
ldL H1011 (pad p946 2) fun q1014 l1015 c1016 =>
K n1012 n1013 q1014 l1015 c1016 15 H1011)
 else (hfad 1 p952 fun p1017 =>
hst1 H990 p1017 (.int .i64 n955) fun H1018 =>
ldP H1018 p944 fun p1019 =>
hnil p1019 fun p1020 =>
hfad 5 p1020 fun p1021 =>
ldI .i64 H1018 p1021 fun n1022 =>
hnil p941 fun p1023 =>
hfad 3 p1023 fun p1024 =>
ldB H1018 (pad p1024 0) fun t1025 =>
ldB H1018 (pad p1024 1) fun t1026 =>
ldB H1018 (pad p1024 2) fun t1027 =>
ldB H1018 (pad p1024 3) fun t1028 =>
ldB H1018 (pad p1024 4) fun t1029 =>
pkthead_Parts n1022 n955 t1025 t1026 t1027 t1028 t1029 H1018 fun q1030 l1031 c1032 H1033 =>
pkthead_State_lengths_l0 (fun p1077 p1078 p1079 n1080 n1081 q1082 l1083 c1084 H1085 =>
pkthead_State_lengths_p1 p1077 p1078 p1079 n1080 n1081 q1082 l1083 c1084 H1085 (fun p1117 p1118 p1119 n1120 n1121 t1122 =>
bif t1122 then (ldI .i64 H1085 (pad p1119 0) fun n1123 =>
ldI .i64 H1085 (pad p1119 1) fun n1124 =>
ldL H1085 (pad p1119 2) fun q1125 l1126 c1127 =>
hst H1085 p1118 [.int .i64 n1123,.int .i64 n1124,.slice q1125 l1126 c1127] fun H1128 =>
ldI .i64 H1128 (pad p1118 0) fun n1129 =>
ldI .i64 H1128 (pad p1118 1) fun n1130 =>
ldL H1128 (pad p1118 2) fun q1131 l1132 c1133 =>
K n1129 n1130 q1131 l1132 c1133 15 H1128)
 else (ldP H1085 p1117 fun p1134 =>
hnil p1134 fun p1135 =>
hfad 7 p1135 fun p1136 =>
ldI .i64 H1085 p1136 fun n1137 =>
hnil p1134 fun p1138 =>
hfad 7 p1138 fun p1139 =>
hst1 H1085 p1139 (.int .i64 (IntKind.wrap .i64 (n1137 + n1121))) fun H1140 =>
ldP H1140 p1117 fun p1141 =>
hnil p1141 fun p1142 =>
hfad 5 p1142 fun p1143 =>
ldI .i64 H1140 p1143 fun n1144 =>
hnil p1141 fun p1145 =>
hfad 5 p1145 fun p1146 =>
hst1 H1140 p1146 (.int .i64 (IntKind.wrap .i64 (n1144 + n1120))) fun H1147 =>
ldI .i64 H1147 (pad p1119 0) fun n1148 =>
ldI .i64 H1147 (pad p1119 1) fun n1149 =>
ldL H1147 (pad p1119 2) fun q1150 l1151 c1152 =>
hst H1147 p1118 [.int .i64 n1148,.int .i64 n1149,.slice q1150 l1151 c1152] fun H1153 =>
ldI .i64 H1153 (pad p1118 0) fun n1154 =>
ldI .i64 H1153 (pad p1118 1) fun n1155 =>
ldL H1153 (pad p1118 2) fun q1156 l1157 c1158 =>
K n1154 n1155 q1156 l1157 c1158 0 H1153))) (fun p1159 n1160 H1161 =>
ldI .i64 H1161 (pad p1159 0) fun n1162 =>
ldI .i64 H1161 (pad p1159 1) fun n1163 =>
ldL H1161 (pad p1159 2) fun q1164 l1165 c1166 =>
K n1162 n1163 q1164 l1165 c1166 n1160 H1161) k p942 p944 p946 p952 n955 n988 q1030 l1031 c1032 p952 p944 q1030 l1031 c1032 ((l1031:Nat):Int) 0 H1033))))
def pkthead_State_lengths {R:Type} (k:Nat) (p941:Oa) (p942:Oa) (p943:Oa) (H:Heap) (K:Int → Int → Oa → Nat → Nat → Int → Heap → Option R):Option R:=pkthead_State_lengths_b (bitio_Reader_Gamma k) (bitio_Reader_Unary k) (pkthead_Parts k) (pkthead_State_lengths_l0 k) (pkthead_State_lengths_p1 k) k p941 p942 p943 H K
def pkthead_State_lengths_Ct {R:Type} (bitio_Reader_Gamma:bitio_Reader_Gamma_t R) (bitio_Reader_Unary:bitio_Reader_Unary_t R) (pkthead_Parts:pkthead_Parts_t R) (pkthead_width:pkthead_width_t R) (bitio_Reader_Bits:bitio_Reader_Bits_t R) (pkthead_State_lengths_1:pkthead_State_lengths_1_t R) (pkthead_suffices:pkthead_suffices_t R):Tab R:=tcons 70 (bitio_Reader_Gamma_ca bitio_Reader_Gamma) <| tcons 71 (bitio_Reader_Unary_ca bitio_Reader_Unary) <| tcons 20 (pkthead_Parts_ca pkthead_Parts) <| tcons 65 (pkthead_width_ca pkthead_width) <| tcons 73 (bitio_Reader_Bits_ca bitio_Reader_Bits) <| tcons 72 (pkthead_State_lengths_1_ca pkthead_State_lengths_1) <| tcons 62 (pkthead_suffices_ca pkthead_suffices) <| fun _ _ _ _ => none
def pkthead_State_lengths_C (R:Type) (k:Nat):Tab R:=pkthead_State_lengths_Ct (bitio_Reader_Gamma k) (bitio_Reader_Unary k) (pkthead_Parts k) (pkthead_width k) (bitio_Reader_Bits k) pkthead_State_lengths_1 (pkthead_suffices k)
theorem pkthead_State_lengths_S (R:Type) (k:Nat):CSound Try.prog (pkthead_State_lengths_C R k):=csound_cons (bitio_Reader_Gamma_cs R k) <| csound_cons (bitio_Reader_Unary_cs R k) <| csound_cons (pkthead_Parts_cs R k) <| csound_cons (pkthead_width_cs R k) <| csound_cons (bitio_Reader_Bits_cs R k) <| csound_cons (pkthead_State_lengths_1_cs R k) <| csound_cons (pkthead_suffices_cs R k) <| csound_nil
def pkthead_State_lengths_aa0 {R:Type} (f:pkthead_State_lengths_l0_t R) (n:Nat) (vals:List Value) (H:Heap) (K:Xit → Env → Heap → Option R):Option R :=
  match vals with
  | [.pointer p1034,.pointer p1035,.pointer p1036,.pointer p1037,.int .i64 n1038,.int .i64 n1039,.slice q1040 l1041 c1042,.func (.func 72) ⟨[]⟩ ⟨[.pointer p1043,.pointer p1044]⟩,.slice q1045 l1046 c1047,.int .i64 n1048,.int .i64 n1049] => f (fun p1672 p1673 p1674 n1675 n1676 q1677 l1678 c1679 H => K (.exit 0) [(5,.pointer p1672),(6,.pointer p1673),(8,.pointer p1674),(9,.int .i64 n1675),(11,.int .i64 n1676),(12,.slice q1677 l1678 c1679)] H) (fun p1680 n1681 H => K .ret [(6,.pointer p1680),(7,.int .i64 n1681)] H) n p1034 p1035 p1036 p1037 n1038 n1039 q1040 l1041 c1042 p1043 p1044 q1045 l1046 c1047 n1048 n1049 H
  | _ => none
def pkthead_State_lengths_a0 (R:Type) (k n:Nat) (vals:List Value) (H:Heap) (K:Xit → Env → Heap → Option R):Option R:=pkthead_State_lengths_aa0 (pkthead_State_lengths_l0 k) n vals H K
def pkthead_State_lengths_aa1 {R:Type} (f:pkthead_State_lengths_p1_t R) (n:Nat) (vals:List Value) (H:Heap) (K:Xit → Env → Heap → Option R):Option R :=
  match vals with
  | [.pointer p1086,.pointer p1087,.pointer p1088,.int .i64 n1089,.int .i64 n1090,.slice q1091 l1092 c1093] => f p1086 p1087 p1088 n1089 n1090 q1091 l1092 c1093 H (fun p1682 p1683 p1684 n1685 n1686 t1687 => K .normal [(5,.pointer p1682),(6,.pointer p1683),(8,.pointer p1684),(9,.int .i64 n1685),(11,.int .i64 n1686),(125,.bool t1687)] H)
  | _ => none
def pkthead_State_lengths_a1 (R:Type) (k n:Nat) (vals:List Value) (H:Heap) (K:Xit → Env → Heap → Option R):Option R:=pkthead_State_lengths_aa1 (pkthead_State_lengths_p1 k) n vals H K
def pkthead_State_lengths_Jt {R:Type} (k:Nat) (pkthead_State_lengths_l0:pkthead_State_lengths_l0_t R) (pkthead_State_lengths_p1:pkthead_State_lengths_p1_t R):JTab R:=tcons 0 (pkthead_State_lengths_aa0 pkthead_State_lengths_l0 k) <| tcons 1 (pkthead_State_lengths_aa1 pkthead_State_lengths_p1 k) <| fun _ _ _ _ => none
def pkthead_State_lengths_J (R:Type) (k:Nat):JTab R:=pkthead_State_lengths_Jt k (pkthead_State_lengths_l0 k) (pkthead_State_lengths_p1 k)
def pkthead_State_lengths_at:AT:=(.seq (.reg [0,1,5,6] []) (.seq (.reg [0,1,5,6,8] []) (.seq (.reg [0,1,5,6,8,9,10] []) (.seq (.seq (.reg [0,1,5,6,8,9,10,29] []) (.cond (.seq (.reg [6,7] []) .leaf) .leaf)) (.seq (.seq (.reg [0,1,5,6,8,9,44] [[],[],[1],[1,2],[1,2,3],[1,2,3,4],[1,2,3,4,5],[],[7],[7,8],[7,8,9],[1,2,3,4,5,6,7,8,9,10],[0,1,2,3,4,5,6,7,8,9,10,11]]) (.cond (.seq (.reg [6,7] []) .leaf) .leaf)) (.seq (.reg [0,1,5,6,8,9,10,11] []) (.seq (.seq (.reg [0,1,5,6,8,9,10,11,52] []) (.cond (.seq (.reg [6,7] []) .leaf) .leaf)) (.seq (.seq (.reg [0,1,5,6,8,9,11,61] []) (.cond (.seq (.reg [6,7] []) .leaf) .leaf)) (.seq (.reg [0,1,5,6,8,9,11] []) (.seq (.reg [1,5,6,8,9,11,12] [[],[0],[0,1],[0,1,2],[],[],[5],[5,6],[5,6,7],[0,1,2,3,4,5,6,7,8],[0,1,2,3,4,5,6,7,8,9]]) (.seq (.reg [1,5,6,8,9,11,12,13] []) (.seq (.seq (.reg [1,5,6,8,9,11,12,13,76,77,78] []) (.node (.opq 0 [1,5,6,8,9,11,12,13,76,77,78] ⟨[],[(0,[5,6,8,9,11,12])],[6,7]⟩ (.node (.seq (.reg [1,5,6,8,9,11,12,13,76,77,78,79] []) (.seq (.cond .leaf .leaf) (.seq (.node (.seq (.reg [1,5,6,8,9,11,12,13,15,76,77,78] []) (.seq (.reg [1,5,6,8,9,11,12,13,16,17,76,77,78] [[],[],[1],[1,2],[1,2,3],[],[1,2,3,4,5],[],[7],[1,2,3,4,5,6,7,8],[0,1,2,3,4,5,6,7,8,9],[0,1,2,3,4,5,6,7,8,9,10],[0,1,2,3,4,5,6,7,8,9,10,11],[0,1,2,3,4,5,6,7,8,9,10,11],[0,1,2,3,4,5,6,7,8,9,10,11,12],[0,1,2,3,4,5,6,7,8,9,10,11,12,13,14]]) (.seq (.seq (.reg [1,5,6,8,9,11,12,13,16,17,76,77,78,97] []) (.cond (.seq (.reg [6,7] []) .leaf) .leaf)) (.reg [1,5,6,8,9,11,12,13,76,77,78] []))))) (.reg [1,5,6,8,9,11,12,13,76,77,78] [])))))))) (.seq (.seq (.opq 1 [5,6,8,9,11,12] ⟨[5,6,8,9,11,125],[],[]⟩ (.reg [5,6,8,9,11,125] [[],[0],[0,1],[0,1,2],[0,1,2,3],[0,1,2,3,4],[0,1,2,3,4,5],[0,1,2],[0,1,2,3,4,5,6,7],[0,1,2,3,4,5,6,7,8],[0,1,2],[0,1,2],[0,1,2,11],[0,1,2,3,4,5,6,7,8,9,10,11,12],[0,1,2,3,4,5,6,7,8,9,10,11,12,13],[0,1,2,3,4,5,6,7,8,9,10,11,12,13,14],[0,1,2,3,4,5,6,7,8,9,10,11,12,13,14,15],[0,1,2,3,4,5,6,7,8,9,10,11,12,13,14,15,16],[0,1,2,3,4,5,6,7,8,9,10,11,12,13,14,15,16,17],[0,1,2,3,4,5,6,7,8,9,10,11,12,13,14,15,16,17,18],[0,1,2,3,4,5,6,7,8,9,10,11,12,13,14,15,16,17,18,19],[0,1,2,3,4,5,6,7,8,9,10,11,12,13,14,15,16,17,18,19,20]])) (.cond (.seq (.reg [6,7] []) .leaf) .leaf)) (.seq (.reg [5,6,8,9] []) (.seq (.reg [6,8] []) (.seq (.reg [6,7] []) .leaf))))))))))))))))
def pkthead_State_lengths_i1:IC:=(.reg [⟨some 104,.mov (.t 11),none⟩,
⟨some 105,.cmp .gtr (.t 104) (.c (Go.Value.int Go.IntKind.i64 0)),none⟩,
⟨some 106,.mov (.t 105),none⟩,
⟨some 107,.ld (.sc .ptr) (.t 5),some (106,true)⟩,
⟨some 108,.nilc (.t 107),some (106,true)⟩,
⟨some 109,.fad 7 (.t 108),some (106,true)⟩,
⟨some 110,.ld (.sc (.int .i64)) (.t 109),some (106,true)⟩,
⟨some 111,.mov (.t 11),some (106,true)⟩,
⟨some 112,.bin .add .i64 (.t 110) (.t 111),some (106,true)⟩,
⟨some 113,.bin .sub .i64 (.t 112) (.c (Go.Value.int Go.IntKind.i64 1)),some (106,true)⟩,
⟨some 114,.mov (.t 12),some (106,true)⟩,
⟨some 115,.fad 2 (.t 8),some (106,true)⟩,
⟨some 116,.ld (.sc .slc) (.t 115),some (106,true)⟩,
⟨some 117,.call 62 [(.t 113),(.t 114),(.t 116)] (.one (.sc .bool)),some (106,true)⟩,
⟨some 118,.pick (.t 106) (.t 117) (.c (Go.Value.bool false)),none⟩,
⟨some 119,.mov (.t 118),none⟩,
⟨some 120,.ld (.sc .ptr) (.t 5),some (119,false)⟩,
⟨some 121,.nilc (.t 120),some (119,false)⟩,
⟨some 122,.fad 6 (.t 121),some (119,false)⟩,
⟨some 123,.ld (.sc (.int .i64)) (.t 122),some (119,false)⟩,
⟨some 124,.cmp .gtr (.t 123) (.c (Go.Value.int Go.IntKind.i64 65535)),some (119,false)⟩,
⟨some 125,.pick (.t 119) (.c (Go.Value.bool true)) (.t 124),none⟩] [5,6,8,9,11,125])
def pkthead_State_lengths_i0:IC:=(.seq (.reg [⟨some 79,.cmp .lss (.t 78) (.t 77),none⟩] [1,5,6,8,9,11,12,13,76,77,78,79]) (.seq (.cond (.t 79) .skip (.exit 0)) (.seq (.block 1 (.seq (.reg [⟨some 80,.ids 1 (.t 76) (.t 78),none⟩,
⟨some 81,.ld (.sc (.int .i64)) (.t 80),none⟩,
⟨some 15,.mov (.t 81),none⟩] [1,5,6,8,9,11,12,13,15,76,77,78]) (.seq (.reg [⟨some 83,.mov (.t 1),none⟩,
⟨some 84,.ld (.sc .ptr) (.t 5),none⟩,
⟨some 85,.nilc (.t 84),none⟩,
⟨some 86,.fad 7 (.t 85),none⟩,
⟨some 87,.ld (.sc (.int .i64)) (.t 86),none⟩,
⟨some 88,.mov (.t 11),none⟩,
⟨some 89,.bin .add .i64 (.t 87) (.t 88),none⟩,
⟨some 90,.mov (.t 15),none⟩,
⟨some 91,.calp 65 [(.t 90)] (.one (.sc (.int .i64))),none⟩,
⟨some 92,.bin .add .i64 (.t 89) (.t 91),none⟩,
⟨some 93,.call 73 [(.t 83),(.t 92)] (.tup [(.sc (.int .i64)),(.sc (.int .i64))]),none⟩,
⟨some 82,.mov (.t 93),none⟩,
⟨some 94,.ext 0 (.t 82),none⟩,
⟨some 95,.ext 1 (.t 82),none⟩,
⟨some 16,.mov (.t 94),none⟩,
⟨some 17,.mov (.t 95),none⟩] [1,5,6,8,9,11,12,13,16,17,76,77,78]) (.seq (.seq (.reg [⟨some 96,.mov (.t 17),none⟩,
⟨some 97,.cmp .neq (.t 96) (.c (Go.Value.int Go.IntKind.i64 0)),none⟩] [1,5,6,8,9,11,12,13,16,17,76,77,78,97]) (.cond (.t 97) (.seq (.reg [⟨some 98,.ld (.agg [(.int .i64),(.int .i64),.slc]) (.t 8),none⟩,
⟨some 99,.mov (.t 17),none⟩,
⟨none,.st 3 (.t 6) (.t 98),none⟩,
⟨some 7,.mov (.t 99),none⟩] [6,7]) .ret) .skip)) (.reg [⟨some 100,.mov (.t 13),none⟩,
⟨some 101,.mov (.t 16),none⟩,
⟨some 102,.calv (.t 100) [(.t 101)] .none,none⟩] [1,5,6,8,9,11,12,13,76,77,78]))))) (.reg [⟨some 103,.bin .add .i64 (.t 78) (.c (Go.Value.int Go.IntKind.i64 1)),none⟩,
⟨some 78,.mov (.t 103),none⟩] [1,5,6,8,9,11,12,13,76,77,78]))))
def pkthead_State_lengths_f:IFn:=⟨144,[.cell 6 (.agg [(.int .i64),(.int .i64),.slc]),.t 7],(.seq (.reg [⟨some 5,.box (.t 2),none⟩,
⟨some 6,.alc [.int .i64 0,.int .i64 0,.slice none 0 0],none⟩,
⟨some 7,.mov (.c (Go.Value.int Go.IntKind.i64 0)),none⟩] [0,1,5,6]) (.seq (.reg [⟨some 18,.ld (.sc .ptr) (.t 5),none⟩,
⟨some 19,.nilc (.t 18),none⟩,
⟨some 20,.fad 4 (.t 19),none⟩,
⟨some 21,.ld (.sc (.int .i64)) (.t 20),none⟩,
⟨some 22,.bld [.int .i64 0,.int .i64 0,.slice none 0 0] [(0,1,(.t 21))],none⟩,
⟨some 8,.alc [.int .i64 0,.int .i64 0,.slice none 0 0],none⟩,
⟨none,.st 3 (.t 8) (.t 22),none⟩] [0,1,5,6,8]) (.seq (.reg [⟨some 24,.mov (.t 1),none⟩,
⟨some 25,.call 70 [(.t 24)] (.tup [(.sc (.int .i64)),(.sc (.int .i64))]),none⟩,
⟨some 23,.mov (.t 25),none⟩,
⟨some 26,.ext 0 (.t 23),none⟩,
⟨some 27,.ext 1 (.t 23),none⟩,
⟨some 9,.mov (.t 26),none⟩,
⟨some 10,.mov (.t 27),none⟩] [0,1,5,6,8,9,10]) (.seq (.seq (.reg [⟨some 28,.mov (.t 10),none⟩,
⟨some 29,.cmp .neq (.t 28) (.c (Go.Value.int Go.IntKind.i64 0)),none⟩] [0,1,5,6,8,9,10,29]) (.cond (.t 29) (.seq (.reg [⟨some 30,.ld (.agg [(.int .i64),(.int .i64),.slc]) (.t 8),none⟩,
⟨some 31,.mov (.t 10),none⟩,
⟨none,.st 3 (.t 6) (.t 30),none⟩,
⟨some 7,.mov (.t 31),none⟩] [6,7]) .ret) .skip)) (.seq (.seq (.reg [⟨some 32,.mov (.t 9),none⟩,
⟨some 33,.ld (.sc .ptr) (.t 5),none⟩,
⟨some 34,.nilc (.t 33),none⟩,
⟨some 35,.fad 4 (.t 34),none⟩,
⟨some 36,.ld (.sc (.int .i64)) (.t 35),none⟩,
⟨some 37,.bin .mul .i64 (.c (Go.Value.int Go.IntKind.i64 3)) (.t 36),none⟩,
⟨some 38,.bin .sub .i64 (.t 37) (.c (Go.Value.int Go.IntKind.i64 2)),none⟩,
⟨some 39,.ld (.sc .ptr) (.t 5),none⟩,
⟨some 40,.nilc (.t 39),none⟩,
⟨some 41,.fad 5 (.t 40),none⟩,
⟨some 42,.ld (.sc (.int .i64)) (.t 41),none⟩,
⟨some 43,.bin .sub .i64 (.t 38) (.t 42),none⟩,
⟨some 44,.cmp .gtr (.t 32) (.t 43),none⟩] [0,1,5,6,8,9,44]) (.cond (.t 44) (.seq (.reg [⟨some 45,.ld (.agg [(.int .i64),(.int .i64),.slc]) (.t 8),none⟩,
⟨none,.st 3 (.t 6) (.t 45),none⟩,
⟨some 7,.mov (.c (Go.Value.int Go.IntKind.i64 15)),none⟩] [6,7]) .ret) .skip)) (.seq (.reg [⟨some 47,.mov (.t 1),none⟩,
⟨some 48,.call 71 [(.t 47),(.c (Go.Value.int Go.IntKind.i64 65535))] (.tup [(.sc (.int .i64)),(.sc (.int .i64))]),none⟩,
⟨some 46,.mov (.t 48),none⟩,
⟨some 49,.ext 0 (.t 46),none⟩,
⟨some 50,.ext 1 (.t 46),none⟩,
⟨some 11,.mov (.t 49),none⟩,
⟨some 10,.mov (.t 50),none⟩] [0,1,5,6,8,9,10,11]) (.seq (.seq (.reg [⟨some 51,.mov (.t 10),none⟩,
⟨some 52,.cmp .neq (.t 51) (.c (Go.Value.int Go.IntKind.i64 0)),none⟩] [0,1,5,6,8,9,10,11,52]) (.cond (.t 52) (.seq (.reg [⟨some 53,.ld (.agg [(.int .i64),(.int .i64),.slc]) (.t 8),none⟩,
⟨some 54,.mov (.t 10),none⟩,
⟨none,.st 3 (.t 6) (.t 53),none⟩,
⟨some 7,.mov (.t 54),none⟩] [6,7]) .ret) .skip)) (.seq (.seq (.reg [⟨some 55,.ld (.sc .ptr) (.t 5),none⟩,
⟨some 56,.nilc (.t 55),none⟩,
⟨some 57,.fad 7 (.t 56),none⟩,
⟨some 58,.ld (.sc (.int .i64)) (.t 57),none⟩,
⟨some 59,.mov (.t 11),none⟩,
⟨some 60,.bin .add .i64 (.t 58) (.t 59),none⟩,
⟨some 61,.cmp .gtr (.t 60) (.c (Go.Value.int Go.IntKind.i64 16)),none⟩] [0,1,5,6,8,9,11,61]) (.cond (.t 61) (.seq (.reg [⟨some 62,.ld (.agg [(.int .i64),(.int .i64),.slc]) (.t 8),none⟩,
⟨none,.st 3 (.t 6) (.t 62),none⟩,
⟨some 7,.mov (.c (Go.Value.int Go.IntKind.i64 15)),none⟩] [6,7]) .ret) .skip)) (.seq (.reg [⟨some 63,.mov (.t 9),none⟩,
⟨some 64,.fad 1 (.t 8),none⟩,
⟨none,.st 1 (.t 64) (.t 63),none⟩] [0,1,5,6,8,9,11]) (.seq (.reg [⟨some 65,.ld (.sc .ptr) (.t 5),none⟩,
⟨some 66,.nilc (.t 65),none⟩,
⟨some 67,.fad 5 (.t 66),none⟩,
⟨some 68,.ld (.sc (.int .i64)) (.t 67),none⟩,
⟨some 69,.mov (.t 9),none⟩,
⟨some 70,.mov (.t 0),none⟩,
⟨some 71,.nilc (.t 70),none⟩,
⟨some 72,.fad 3 (.t 71),none⟩,
⟨some 73,.ld (.agg [.bool,.bool,.bool,.bool,.bool]) (.t 72),none⟩,
⟨some 74,.call 20 [(.t 68),(.t 69),(.t 73)] (.one (.sc .slc)),none⟩,
⟨some 12,.mov (.t 74),none⟩] [1,5,6,8,9,11,12]) (.seq (.reg [⟨some 75,.mkf 72 [(.t 8),(.t 5)],none⟩,
⟨some 13,.mov (.t 75),none⟩] [1,5,6,8,9,11,12,13]) (.seq (.seq (.reg [⟨some 76,.mov (.t 12),none⟩,
⟨some 77,.len false (.t 76),none⟩,
⟨some 78,.mov (.c (Go.Value.int Go.IntKind.i64 0)),none⟩] [1,5,6,8,9,11,12,13,76,77,78]) (.block 0 (.opq 0 [1,5,6,8,9,11,12,13,76,77,78] (.loop pkthead_State_lengths_i0)))) (.seq (.seq (.opq 1 [5,6,8,9,11,12] pkthead_State_lengths_i1) (.cond (.t 125) (.seq (.reg [⟨some 126,.ld (.agg [(.int .i64),(.int .i64),.slc]) (.t 8),none⟩,
⟨none,.st 3 (.t 6) (.t 126),none⟩,
⟨some 7,.mov (.c (Go.Value.int Go.IntKind.i64 15)),none⟩] [6,7]) .ret) .skip)) (.seq (.reg [⟨some 127,.ld (.sc .ptr) (.t 5),none⟩,
⟨some 128,.nilc (.t 127),none⟩,
⟨some 129,.fad 7 (.t 128),none⟩,
⟨some 130,.ld (.sc (.int .i64)) (.t 129),none⟩,
⟨some 131,.mov (.t 11),none⟩,
⟨some 132,.bin .add .i64 (.t 130) (.t 131),none⟩,
⟨some 133,.nilc (.t 127),none⟩,
⟨some 134,.fad 7 (.t 133),none⟩,
⟨none,.st 1 (.t 134) (.t 132),none⟩] [5,6,8,9]) (.seq (.reg [⟨some 135,.ld (.sc .ptr) (.t 5),none⟩,
⟨some 136,.nilc (.t 135),none⟩,
⟨some 137,.fad 5 (.t 136),none⟩,
⟨some 138,.ld (.sc (.int .i64)) (.t 137),none⟩,
⟨some 139,.mov (.t 9),none⟩,
⟨some 140,.bin .add .i64 (.t 138) (.t 139),none⟩,
⟨some 141,.nilc (.t 135),none⟩,
⟨some 142,.fad 5 (.t 141),none⟩,
⟨none,.st 1 (.t 142) (.t 140),none⟩] [6,8]) (.seq (.reg [⟨some 143,.ld (.agg [(.int .i64),(.int .i64),.slc]) (.t 8),none⟩,
⟨none,.st 3 (.t 6) (.t 143),none⟩,
⟨some 7,.mov (.c (Go.Value.int Go.IntKind.i64 0)),none⟩] [6,7]) .ret))))))))))))))))⟩
theorem pkthead_State_lengths_e1 {R:Type} (bitio_Reader_Gamma:bitio_Reader_Gamma_t R) (bitio_Reader_Unary:bitio_Reader_Unary_t R) (pkthead_Parts:pkthead_Parts_t R) (pkthead_width:pkthead_width_t R) (bitio_Reader_Bits:bitio_Reader_Bits_t R) (pkthead_State_lengths_1:pkthead_State_lengths_1_t R) (pkthead_suffices:pkthead_suffices_t R) (pkthead_State_lengths_l0:pkthead_State_lengths_l0_t R) (pkthead_State_lengths_p1:pkthead_State_lengths_p1_t R) (k:Nat) (p1086:Oa) (p1087:Oa) (p1088:Oa) (n1089:Int) (n1090:Int) (q1091:Oa) (l1092:Nat) (c1093:Nat) (H:Heap) (K:Xit → Env → Heap → Option R):evJ (pkthead_State_lengths_Ct bitio_Reader_Gamma bitio_Reader_Unary pkthead_Parts pkthead_width bitio_Reader_Bits pkthead_State_lengths_1 pkthead_suffices) (pkthead_State_lengths_Jt k pkthead_State_lengths_l0 pkthead_State_lengths_p1) pkthead_State_lengths_i1 (List.zip [5,6,8,9,11,12] [.pointer p1086,.pointer p1087,.pointer p1088,.int .i64 n1089,.int .i64 n1090,.slice q1091 l1092 c1093]) H (fun x e' H' => K x (clean e' ((⟨[5,6,8,9,11,125],[],[]⟩:Out).of x)) H') = pkthead_State_lengths_p1_b pkthead_suffices k p1086 p1087 p1088 n1089 n1090 q1091 l1092 c1093 H (fun p1682 p1683 p1684 n1685 n1686 t1687 => K .normal [(5,.pointer p1682),(6,.pointer p1683),(8,.pointer p1684),(9,.int .i64 n1685),(11,.int .i64 n1686),(125,.bool t1687)] H):=by kernel_rfl
theorem pkthead_State_lengths_j1 {R:Type} (k:Nat):JS Try.prog 144 (pkthead_State_lengths_a1 R k k) [5,6,8,9,11,12] ⟨[5,6,8,9,11,125],[],[]⟩ (sel [1,1,1,1,1,1,1,1,1,1,1,1,0,0] (Try.f47.body.getD .skip)) :=
  piece_ok (nt:=144) (c:=(sel [1,1,1,1,1,1,1,1,1,1,1,1,0,0] (Try.f47.body.getD .skip))) (C:=pkthead_State_lengths_C R k) (an:=An) (t:=(.reg [5,6,8,9,11,125] [[],[0],[0,1],[0,1,2],[0,1,2,3],[0,1,2,3,4],[0,1,2,3,4,5],[0,1,2],[0,1,2,3,4,5,6,7],[0,1,2,3,4,5,6,7,8],[0,1,2],[0,1,2],[0,1,2,11],[0,1,2,3,4,5,6,7,8,9,10,11,12],[0,1,2,3,4,5,6,7,8,9,10,11,12,13],[0,1,2,3,4,5,6,7,8,9,10,11,12,13,14],[0,1,2,3,4,5,6,7,8,9,10,11,12,13,14,15],[0,1,2,3,4,5,6,7,8,9,10,11,12,13,14,15,16],[0,1,2,3,4,5,6,7,8,9,10,11,12,13,14,15,16,17],[0,1,2,3,4,5,6,7,8,9,10,11,12,13,14,15,16,17,18],[0,1,2,3,4,5,6,7,8,9,10,11,12,13,14,15,16,17,18,19],[0,1,2,3,4,5,6,7,8,9,10,11,12,13,14,15,16,17,18,19,20]])) (ic:=pkthead_State_lengths_i1) (pkthead_State_lengths_S R k) (pkthead_State_lengths_J R k) (by kernel_rfl) True.intro (pkthead_State_lengths_a1 R k k)
    (fun vals H K r h => by
      unfold pkthead_State_lengths_a1 pkthead_State_lengths_aa1 at h
      split at h <;> first | (cases h; done) | exact Eq.trans (pkthead_State_lengths_e1 (bitio_Reader_Gamma k) (bitio_Reader_Unary k) (pkthead_Parts k) (pkthead_width k) (bitio_Reader_Bits k) pkthead_State_lengths_1 (pkthead_suffices k) (pkthead_State_lengths_l0 k) (pkthead_State_lengths_p1 k) k _ _ _ _ _ _ _ _ H K) h)
theorem pkthead_State_lengths_e0 {R:Type} (bitio_Reader_Gamma:bitio_Reader_Gamma_t R) (bitio_Reader_Unary:bitio_Reader_Unary_t R) (pkthead_Parts:pkthead_Parts_t R) (pkthead_width:pkthead_width_t R) (bitio_Reader_Bits:bitio_Reader_Bits_t R) (pkthead_State_lengths_1:pkthead_State_lengths_1_t R) (pkthead_suffices:pkthead_suffices_t R) (pkthead_State_lengths_l0:pkthead_State_lengths_l0_t R) (pkthead_State_lengths_p1:pkthead_State_lengths_p1_t R) (k n:Nat) (p1034:Oa) (p1035:Oa) (p1036:Oa) (p1037:Oa) (n1038:Int) (n1039:Int) (q1040:Oa) (l1041:Nat) (c1042:Nat) (p1043:Oa) (p1044:Oa) (q1045:Oa) (l1046:Nat) (c1047:Nat) (n1048:Int) (n1049:Int) (H:Heap) (K:Xit → Env → Heap → Option R):evJ (pkthead_State_lengths_Ct bitio_Reader_Gamma bitio_Reader_Unary pkthead_Parts pkthead_width bitio_Reader_Bits pkthead_State_lengths_1 pkthead_suffices) (pkthead_State_lengths_Jt k pkthead_State_lengths_l0 pkthead_State_lengths_p1) pkthead_State_lengths_i0 (List.zip [1,5,6,8,9,11,12,13,76,77,78] [.pointer p1034,.pointer p1035,.pointer p1036,.pointer p1037,.int .i64 n1038,.int .i64 n1039,.slice q1040 l1041 c1042,.func (.func 72) ⟨[]⟩ ⟨[.pointer p1043,.pointer p1044]⟩,.slice q1045 l1046 c1047,.int .i64 n1048,.int .i64 n1049]) H (fun x e' H' => match x with | .normal => pkthead_State_lengths_aa0 pkthead_State_lengths_l0 n ((clean e' [1,5,6,8,9,11,12,13,76,77,78]).map (·.2)) H' K | x => K x (clean e' ((⟨[],[(0,[5,6,8,9,11,12])],[6,7]⟩:Out).of x)) H') = pkthead_State_lengths_l0_b pkthead_width bitio_Reader_Bits pkthead_State_lengths_1 (pkthead_State_lengths_l0 (fun p1672 p1673 p1674 n1675 n1676 q1677 l1678 c1679 H => K (.exit 0) [(5,.pointer p1672),(6,.pointer p1673),(8,.pointer p1674),(9,.int .i64 n1675),(11,.int .i64 n1676),(12,.slice q1677 l1678 c1679)] H) (fun p1680 n1681 H => K .ret [(6,.pointer p1680),(7,.int .i64 n1681)] H) n) (fun p1672 p1673 p1674 n1675 n1676 q1677 l1678 c1679 H => K (.exit 0) [(5,.pointer p1672),(6,.pointer p1673),(8,.pointer p1674),(9,.int .i64 n1675),(11,.int .i64 n1676),(12,.slice q1677 l1678 c1679)] H) (fun p1680 n1681 H => K .ret [(6,.pointer p1680),(7,.int .i64 n1681)] H) k p1034 p1035 p1036 p1037 n1038 n1039 q1040 l1041 c1042 p1043 p1044 q1045 l1046 c1047 n1048 n1049 H:=by kernel_rfl
theorem pkthead_State_lengths_j0 {R:Type} (k:Nat):JS Try.prog 144 (pkthead_State_lengths_a0 R k k) [1,5,6,8,9,11,12,13,76,77,78] ⟨[],[(0,[5,6,8,9,11,12])],[6,7]⟩ (.loop (sel [1,1,1,1,1,1,1,1,1,1,1,0,1,0,0] (Try.f47.body.getD .skip))) :=
  loop_ok (nt:=144) (c:=(sel [1,1,1,1,1,1,1,1,1,1,1,0,1,0,0] (Try.f47.body.getD .skip))) (C:=pkthead_State_lengths_C R k) (an:=An) (t:=(.seq (.reg [1,5,6,8,9,11,12,13,76,77,78,79] []) (.seq (.cond .leaf .leaf) (.seq (.node (.seq (.reg [1,5,6,8,9,11,12,13,15,76,77,78] []) (.seq (.reg [1,5,6,8,9,11,12,13,16,17,76,77,78] [[],[],[1],[1,2],[1,2,3],[],[1,2,3,4,5],[],[7],[1,2,3,4,5,6,7,8],[0,1,2,3,4,5,6,7,8,9],[0,1,2,3,4,5,6,7,8,9,10],[0,1,2,3,4,5,6,7,8,9,10,11],[0,1,2,3,4,5,6,7,8,9,10,11],[0,1,2,3,4,5,6,7,8,9,10,11,12],[0,1,2,3,4,5,6,7,8,9,10,11,12,13,14]]) (.seq (.seq (.reg [1,5,6,8,9,11,12,13,16,17,76,77,78,97] []) (.cond (.seq (.reg [6,7] []) .leaf) .leaf)) (.reg [1,5,6,8,9,11,12,13,76,77,78] []))))) (.reg [1,5,6,8,9,11,12,13,76,77,78] []))))) (ic:=pkthead_State_lengths_i0) (pkthead_State_lengths_S R k) (pkthead_State_lengths_J R k) (by kernel_rfl) (And.intro True.intro (And.intro (And.intro True.intro True.intro) (And.intro (And.intro True.intro (And.intro True.intro (And.intro (And.intro True.intro (And.intro (And.intro True.intro True.intro) True.intro)) True.intro))) True.intro))) (pkthead_State_lengths_a0 R k) (fun vals H K => by unfold pkthead_State_lengths_a0 pkthead_State_lengths_aa0; split <;> rfl)
    (fun n vals H K r h => by
      unfold pkthead_State_lengths_a0 pkthead_State_lengths_aa0 at h
      split at h <;> first | (cases h; done) | exact Eq.trans (pkthead_State_lengths_e0 (bitio_Reader_Gamma k) (bitio_Reader_Unary k) (pkthead_Parts k) (pkthead_width k) (bitio_Reader_Bits k) pkthead_State_lengths_1 (pkthead_suffices k) (pkthead_State_lengths_l0 k) (pkthead_State_lengths_p1 k) k n _ _ _ _ _ _ _ _ _ _ _ _ _ _ _ _ H K) h) k
def pkthead_State_lengths_ca {R:Type} (f:pkthead_State_lengths_t R) (args:List Value) (H:Heap) (K:Value → Heap → Option R):Option R :=
  match args with
  | [.pointer p941,.pointer p942,.pointer p943] => f p941 p942 p943 H (fun n1688 n1689 q1690 l1691 c1692 n1693 H => K (.tuple ⟨[.agg ⟨[.int .i64 n1688,.int .i64 n1689,.slice q1690 l1691 c1692]⟩,.int .i64 n1693]⟩) H)
  | _ => none
def pkthead_State_lengths_c (R:Type) (k:Nat) (args:List Value) (H:Heap) (K:Value → Heap → Option R):Option R:=pkthead_State_lengths_ca (pkthead_State_lengths k) args H K
theorem pkthead_State_lengths_e {R:Type} (bitio_Reader_Gamma:bitio_Reader_Gamma_t R) (bitio_Reader_Unary:bitio_Reader_Unary_t R) (pkthead_Parts:pkthead_Parts_t R) (pkthead_width:pkthead_width_t R) (bitio_Reader_Bits:bitio_Reader_Bits_t R) (pkthead_State_lengths_1:pkthead_State_lengths_1_t R) (pkthead_suffices:pkthead_suffices_t R) (pkthead_State_lengths_l0:pkthead_State_lengths_l0_t R) (pkthead_State_lengths_p1:pkthead_State_lengths_p1_t R) (k:Nat) (p941:Oa) (p942:Oa) (p943:Oa) (H:Heap) (K:Value → Heap → Option R):evF (pkthead_State_lengths_Ct bitio_Reader_Gamma bitio_Reader_Unary pkthead_Parts pkthead_width bitio_Reader_Bits pkthead_State_lengths_1 pkthead_suffices) (pkthead_State_lengths_Jt k pkthead_State_lengths_l0 pkthead_State_lengths_p1) pkthead_State_lengths_f [.pointer p941,.pointer p942,.pointer p943] H K = pkthead_State_lengths_b bitio_Reader_Gamma bitio_Reader_Unary pkthead_Parts pkthead_State_lengths_l0 pkthead_State_lengths_p1 k p941 p942 p943 H (fun n1688 n1689 q1690 l1691 c1692 n1693 H => K (.tuple ⟨[.agg ⟨[.int .i64 n1688,.int .i64 n1689,.slice q1690 l1691 c1692]⟩,.int .i64 n1693]⟩) H):=by kernel_rfl
theorem pkthead_State_lengths_cs (R:Type) (k:Nat):∀ args H K r,pkthead_State_lengths_c R k args H K = some r → ∃ v H',Tri Try.prog 47 args H v H' ∧ K v H' = some r:=by
  intro args H K r h
  unfold pkthead_State_lengths_c pkthead_State_lengths_ca at h
  split at h
  · exact evF_ok (C:=pkthead_State_lengths_C R k) (an:=An) (t:=pkthead_State_lengths_at) (fn:=Try.f47) (c:=(Try.f47.body.getD .skip)) (ifn:=pkthead_State_lengths_f) (pkthead_State_lengths_S R k) (pkthead_State_lengths_J R k) Try.func47 (by kernel_rfl) (by kernel_rfl) (And.intro True.intro (And.intro True.intro (And.intro True.intro (And.intro (And.intro True.intro (And.intro (And.intro True.intro True.intro) True.intro)) (And.intro (And.intro True.intro (And.intro (And.intro True.intro True.intro) True.intro)) (And.intro True.intro (And.intro (And.intro True.intro (And.intro (And.intro True.intro True.intro) True.intro)) (And.intro (And.intro True.intro (And.intro (And.intro True.intro True.intro) True.intro)) (And.intro True.intro (And.intro True.intro (And.intro True.intro (And.intro (And.intro True.intro (pkthead_State_lengths_j0 k)) (And.intro (And.intro (pkthead_State_lengths_j1 k) (And.intro (And.intro True.intro True.intro) True.intro)) (And.intro True.intro (And.intro True.intro (And.intro True.intro True.intro)))))))))))))))) rfl (Eq.trans (pkthead_State_lengths_e (bitio_Reader_Gamma k) (bitio_Reader_Unary k) (pkthead_Parts k) (pkthead_width k) (bitio_Reader_Bits k) pkthead_State_lengths_1 (pkthead_suffices k) (pkthead_State_lengths_l0 k) (pkthead_State_lengths_p1 k) k _ _ _ H K) h)
  · cases h
abbrev bitio_Reader_Align_p1_t (R:Type):Type:=Oa → Int → Heap → (Oa → Bool → Option R) → Option R
def bitio_Reader_Align_p1_b {R:Type} (k:Nat) (p913:Oa) (n914:Int) (H:Heap) (KN:Oa → Bool → Option R):Option R :=
hnil p913 fun p915 =>
hfad 3 p915 fun p916 =>
ldI .i64 H p916 fun n917 =>
bif (n917 == 0) then (KN p913 (n914 == 255))
 else (KN p913 false)
def bitio_Reader_Align_p1 {R:Type} (k:Nat) (p913:Oa) (n914:Int) (H:Heap) (KN:Oa → Bool → Option R):Option R:=bitio_Reader_Align_p1_b k p913 n914 H KN
abbrev bitio_Reader_Align_p0_t (R:Type):Type:=Oa → Int → Heap → (Oa → Heap → Option R) → (Int → Int → Heap → Option R) → Option R
def bitio_Reader_Align_p0_b {R:Type} (bitio_Reader_Align_p1:bitio_Reader_Align_p1_t R) (k:Nat) (p911:Oa) (n912:Int) (H:Heap) (KN:Oa → Heap → Option R) (KR:Int → Int → Heap → Option R):Option R :=
bitio_Reader_Align_p1 p911 n912 H (fun p920 t921 =>
bif t921 then (hnil p920 fun p922 =>
hfad 2 p922 fun p923 =>
ldI .i64 H p923 fun n924 =>
hnil p920 fun p925 =>
hfad 1 p925 fun p926 =>
ldL H p926 fun q927 l928 c929 =>
bif (n924 == ((l928:Nat):Int)) then (KR 0 7 H)
 else (hnil p920 fun p930 =>
hfad 1 p930 fun p931 =>
ldL H p931 fun q932 l933 c934 =>
hnil p920 fun p935 =>
hfad 2 p935 fun p936 =>
ldI .i64 H p936 fun n937 =>
hidx q932 l933 n937 1 fun p938 =>
ldI .u8 H p938 fun n939 =>
bif (n939 != 0) then (KR 0 8 H)
 else (hnil p920 fun p940 =>
hfad 2 p940 fun p941 =>
ldI .i64 H p941 fun n942 =>
hnil p920 fun p943 =>
hfad 2 p943 fun p944 =>
hst1 H p944 (.int .i64 (IntKind.wrap .i64 (n942 + 1))) fun H945 =>
KN p920 H945)))
 else (KN p920 H))
def bitio_Reader_Align_p0 {R:Type} (k:Nat) (p911:Oa) (n912:Int) (H:Heap) (KN:Oa → Heap → Option R) (KR:Int → Int → Heap → Option R):Option R:=bitio_Reader_Align_p0_b (bitio_Reader_Align_p1 k) k p911 n912 H KN KR
abbrev bitio_Reader_Align_t (R:Type):Type:=Oa → Heap → (Int → Int → Heap → Option R) → Option R
def bitio_Reader_Align_b {R:Type} (bitio_Reader_ok:bitio_Reader_ok_t R) (bitio_Reader_Align_p0:bitio_Reader_Align_p0_t R) (k:Nat) (p891:Oa) (H:Heap) (K:Int → Int → Heap → Option R):Option R :=
bitio_Reader_ok p891 H fun t892 =>
bif (!t892) then (K 0 6 H)
 else (hnil p891 fun p893 =>
hfad 2 p893 fun p894 =>
ldI .i64 H p894 fun n895 =>
bif (n895 == 0) then (K 0 0 H)
 else (hnil p891 fun p896 =>
hfad 1 p896 fun p897 =>
ldL H p897 fun q898 l899 c900 =>
hnil p891 fun p901 =>
hfad 2 p901 fun p902 =>
ldI .i64 H p902 fun n903 =>
hidx q898 l899 (IntKind.wrap .i64 (n903 - 1)) 1 fun p904 =>
ldI .u8 H p904 fun n905 =>
hnil p891 fun p906 =>
hfad 3 p906 fun p907 =>
ldI .i64 H p907 fun n908 =>
hbin .shl .u8 1 (IntKind.wrap .u64 n908) fun n909 =>
hbin .and .u8 n905 (IntKind.wrap .u8 (n909 - 1)) fun n910 =>
bif (n910 != 0) then (K 0 8 H)
 else (bitio_Reader_Align_p0 p891 n905 H (fun p949 H950 =>
hnil p949 fun p951 =>
hfad 3 p951 fun p952 =>
hst1 H950 p952 (.int .i64 0) fun H953 =>
hnil p949 fun p954 =>
hfad 2 p954 fun p955 =>
ldI .i64 H953 p955 fun n956 =>
K n956 0 H953) (fun n957 n958 H959 =>
K n957 n958 H959))))
def bitio_Reader_Align {R:Type} (k:Nat) (p891:Oa) (H:Heap) (K:Int → Int → Heap → Option R):Option R:=bitio_Reader_Align_b bitio_Reader_ok (bitio_Reader_Align_p0 k) k p891 H K
def bitio_Reader_Align_Ct {R:Type} (bitio_Reader_ok:bitio_Reader_ok_t R):Tab R:=tcons 66 (bitio_Reader_ok_ca bitio_Reader_ok) <| fun _ _ _ _ => none
def bitio_Reader_Align_C (R:Type) (k:Nat):Tab R:=bitio_Reader_Align_Ct bitio_Reader_ok
theorem bitio_Reader_Align_S (R:Type) (k:Nat):CSound Try.prog (bitio_Reader_Align_C R k):=csound_cons (bitio_Reader_ok_cs R k) <| csound_nil
def bitio_Reader_Align_aa0 {R:Type} (f:bitio_Reader_Align_p0_t R) (n:Nat) (vals:List Value) (H:Heap) (K:Xit → Env → Heap → Option R):Option R :=
  match vals with
  | [.pointer p911,.int .u8 n912] => f p911 n912 H (fun p1694 H => K .normal [(0,.pointer p1694)] H) (fun n1695 n1696 H => K .ret [(2,.int .i64 n1695),(3,.int .i64 n1696)] H)
  | _ => none
def bitio_Reader_Align_a0 (R:Type) (k n:Nat) (vals:List Value) (H:Heap) (K:Xit → Env → Heap → Option R):Option R:=bitio_Reader_Align_aa0 (bitio_Reader_Align_p0 k) n vals H K
def bitio_Reader_Align_aa1 {R:Type} (f:bitio_Reader_Align_p1_t R) (n:Nat) (vals:List Value) (H:Heap) (K:Xit → Env → Heap → Option R):Option R :=
  match vals with
  | [.pointer p913,.int .u8 n914] => f p913 n914 H (fun p1697 t1698 => K .normal [(0,.pointer p1697),(42,.bool t1698)] H)
  | _ => none
def bitio_Reader_Align_a1 (R:Type) (k n:Nat) (vals:List Value) (H:Heap) (K:Xit → Env → Heap → Option R):Option R:=bitio_Reader_Align_aa1 (bitio_Reader_Align_p1 k) n vals H K
def bitio_Reader_Align_Jt {R:Type} (k:Nat) (bitio_Reader_Align_p0:bitio_Reader_Align_p0_t R) (bitio_Reader_Align_p1:bitio_Reader_Align_p1_t R):JTab R:=tcons 0 (bitio_Reader_Align_aa0 bitio_Reader_Align_p0 k) <| tcons 1 (bitio_Reader_Align_aa1 bitio_Reader_Align_p1 k) <| fun _ _ _ _ => none
def bitio_Reader_Align_J (R:Type) (k:Nat):JTab R:=bitio_Reader_Align_Jt k (bitio_Reader_Align_p0 k) (bitio_Reader_Align_p1 k)
def bitio_Reader_Align_at:AT:=(.seq (.reg [0] []) (.seq (.seq (.reg [0,7] []) (.cond (.seq (.reg [2,3] []) .leaf) .leaf)) (.seq (.seq (.reg [0,12] []) (.cond (.seq (.reg [2,3] []) .leaf) .leaf)) (.seq (.reg [0,4] [[],[0],[0,1],[0,1,2],[],[4],[4,5],[4,5,6],[4,5,6,7],[0,1,2,3,4,5,6,7,8],[0,1,2,3,4,5,6,7,8,9],[0,1,2,3,4,5,6,7,8,9,10]]) (.seq (.seq (.reg [0,4,33] []) (.cond (.seq (.reg [2,3] []) .leaf) .leaf)) (.seq (.opq 0 [0,4] ⟨[0],[],[2,3]⟩ (.seq (.opq 1 [0,4] ⟨[0,42],[],[]⟩ (.reg [0,42] [])) (.cond (.seq (.seq (.reg [0,52] [[],[0],[0,1],[0,1,2],[],[4],[4,5],[4,5,6],[4,5,6,7],[0,1,2,3,4,5,6,7,8]]) (.cond (.seq (.reg [2,3] []) .leaf) .leaf)) (.seq (.seq (.reg [0,63] [[],[0],[0,1],[0,1,2],[],[4],[4,5],[4,5,6],[0,1,2,3,4,5,6,7],[0,1,2,3,4,5,6,7,8],[0,1,2,3,4,5,6,7,8,9]]) (.cond (.seq (.reg [2,3] []) .leaf) .leaf)) (.reg [0] []))) .leaf))) (.seq (.reg [0] []) (.seq (.reg [2,3] []) .leaf))))))))
def bitio_Reader_Align_i1:IC:=(.reg [⟨some 34,.mov (.t 0),none⟩,
⟨some 35,.nilc (.t 34),none⟩,
⟨some 36,.fad 3 (.t 35),none⟩,
⟨some 37,.ld (.sc (.int .i64)) (.t 36),none⟩,
⟨some 38,.cmp .eql (.t 37) (.c (Go.Value.int Go.IntKind.i64 0)),none⟩,
⟨some 39,.mov (.t 38),none⟩,
⟨some 40,.mov (.t 4),some (39,true)⟩,
⟨some 41,.cmp .eql (.t 40) (.c (Go.Value.int Go.IntKind.u8 255)),some (39,true)⟩,
⟨some 42,.pick (.t 39) (.t 41) (.c (Go.Value.bool false)),none⟩] [0,42])
def bitio_Reader_Align_i0:IC:=(.seq (.opq 1 [0,4] bitio_Reader_Align_i1) (.cond (.t 42) (.seq (.seq (.reg [⟨some 43,.mov (.t 0),none⟩,
⟨some 44,.nilc (.t 43),none⟩,
⟨some 45,.fad 2 (.t 44),none⟩,
⟨some 46,.ld (.sc (.int .i64)) (.t 45),none⟩,
⟨some 47,.mov (.t 0),none⟩,
⟨some 48,.nilc (.t 47),none⟩,
⟨some 49,.fad 1 (.t 48),none⟩,
⟨some 50,.ld (.sc .slc) (.t 49),none⟩,
⟨some 51,.len false (.t 50),none⟩,
⟨some 52,.cmp .eql (.t 46) (.t 51),none⟩] [0,52]) (.cond (.t 52) (.seq (.reg [⟨some 2,.mov (.c (Go.Value.int Go.IntKind.i64 0)),none⟩,
⟨some 3,.mov (.c (Go.Value.int Go.IntKind.i64 7)),none⟩] [2,3]) .ret) .skip)) (.seq (.seq (.reg [⟨some 53,.mov (.t 0),none⟩,
⟨some 54,.nilc (.t 53),none⟩,
⟨some 55,.fad 1 (.t 54),none⟩,
⟨some 56,.ld (.sc .slc) (.t 55),none⟩,
⟨some 57,.mov (.t 0),none⟩,
⟨some 58,.nilc (.t 57),none⟩,
⟨some 59,.fad 2 (.t 58),none⟩,
⟨some 60,.ld (.sc (.int .i64)) (.t 59),none⟩,
⟨some 61,.ids 1 (.t 56) (.t 60),none⟩,
⟨some 62,.ld (.sc (.int .u8)) (.t 61),none⟩,
⟨some 63,.cmp .neq (.t 62) (.c (Go.Value.int Go.IntKind.u8 0)),none⟩] [0,63]) (.cond (.t 63) (.seq (.reg [⟨some 2,.mov (.c (Go.Value.int Go.IntKind.i64 0)),none⟩,
⟨some 3,.mov (.c (Go.Value.int Go.IntKind.i64 8)),none⟩] [2,3]) .ret) .skip)) (.reg [⟨some 64,.mov (.t 0),none⟩,
⟨some 65,.nilc (.t 64),none⟩,
⟨some 66,.fad 2 (.t 65),none⟩,
⟨some 67,.ld (.sc (.int .i64)) (.t 66),none⟩,
⟨some 68,.bin .add .i64 (.t 67) (.c (Go.Value.int Go.IntKind.i64 1)),none⟩,
⟨some 69,.nilc (.t 64),none⟩,
⟨some 70,.fad 2 (.t 69),none⟩,
⟨none,.st 1 (.t 70) (.t 68),none⟩] [0]))) .skip))
def bitio_Reader_Align_f:IFn:=⟨78,[.t 2,.t 3],(.seq (.reg [⟨some 2,.mov (.c (Go.Value.int Go.IntKind.i64 0)),none⟩,
⟨some 3,.mov (.c (Go.Value.int Go.IntKind.i64 0)),none⟩] [0]) (.seq (.seq (.reg [⟨some 5,.mov (.t 0),none⟩,
⟨some 6,.call 66 [(.t 5)] (.one (.sc .bool)),none⟩,
⟨some 7,.lnot (.t 6),none⟩] [0,7]) (.cond (.t 7) (.seq (.reg [⟨some 2,.mov (.c (Go.Value.int Go.IntKind.i64 0)),none⟩,
⟨some 3,.mov (.c (Go.Value.int Go.IntKind.i64 6)),none⟩] [2,3]) .ret) .skip)) (.seq (.seq (.reg [⟨some 8,.mov (.t 0),none⟩,
⟨some 9,.nilc (.t 8),none⟩,
⟨some 10,.fad 2 (.t 9),none⟩,
⟨some 11,.ld (.sc (.int .i64)) (.t 10),none⟩,
⟨some 12,.cmp .eql (.t 11) (.c (Go.Value.int Go.IntKind.i64 0)),none⟩] [0,12]) (.cond (.t 12) (.seq (.reg [⟨some 2,.mov (.c (Go.Value.int Go.IntKind.i64 0)),none⟩,
⟨some 3,.mov (.c (Go.Value.int Go.IntKind.i64 0)),none⟩] [2,3]) .ret) .skip)) (.seq (.reg [⟨some 13,.mov (.t 0),none⟩,
⟨some 14,.nilc (.t 13),none⟩,
⟨some 15,.fad 1 (.t 14),none⟩,
⟨some 16,.ld (.sc .slc) (.t 15),none⟩,
⟨some 17,.mov (.t 0),none⟩,
⟨some 18,.nilc (.t 17),none⟩,
⟨some 19,.fad 2 (.t 18),none⟩,
⟨some 20,.ld (.sc (.int .i64)) (.t 19),none⟩,
⟨some 21,.bin .sub .i64 (.t 20) (.c (Go.Value.int Go.IntKind.i64 1)),none⟩,
⟨some 22,.ids 1 (.t 16) (.t 21),none⟩,
⟨some 23,.ld (.sc (.int .u8)) (.t 22),none⟩,
⟨some 4,.mov (.t 23),none⟩] [0,4]) (.seq (.seq (.reg [⟨some 24,.mov (.t 4),none⟩,
⟨some 25,.mov (.t 0),none⟩,
⟨some 26,.nilc (.t 25),none⟩,
⟨some 27,.fad 3 (.t 26),none⟩,
⟨some 28,.ld (.sc (.int .i64)) (.t 27),none⟩,
⟨some 29,.cnv .u64 (.t 28),none⟩,
⟨some 30,.bin .shl .u8 (.c (Go.Value.int Go.IntKind.u8 1)) (.t 29),none⟩,
⟨some 31,.bin .sub .u8 (.t 30) (.c (Go.Value.int Go.IntKind.u8 1)),none⟩,
⟨some 32,.bin .and .u8 (.t 24) (.t 31),none⟩,
⟨some 33,.cmp .neq (.t 32) (.c (Go.Value.int Go.IntKind.u8 0)),none⟩] [0,4,33]) (.cond (.t 33) (.seq (.reg [⟨some 2,.mov (.c (Go.Value.int Go.IntKind.i64 0)),none⟩,
⟨some 3,.mov (.c (Go.Value.int Go.IntKind.i64 8)),none⟩] [2,3]) .ret) .skip)) (.seq (.opq 0 [0,4] bitio_Reader_Align_i0) (.seq (.reg [⟨some 71,.mov (.t 0),none⟩,
⟨some 72,.nilc (.t 71),none⟩,
⟨some 73,.fad 3 (.t 72),none⟩,
⟨none,.st 1 (.t 73) (.c (Go.Value.int Go.IntKind.i64 0)),none⟩] [0]) (.seq (.reg [⟨some 74,.mov (.t 0),none⟩,
⟨some 75,.nilc (.t 74),none⟩,
⟨some 76,.fad 2 (.t 75),none⟩,
⟨some 77,.ld (.sc (.int .i64)) (.t 76),none⟩,
⟨some 2,.mov (.t 77),none⟩,
⟨some 3,.mov (.c (Go.Value.int Go.IntKind.i64 0)),none⟩] [2,3]) .ret))))))))⟩
theorem bitio_Reader_Align_e1 {R:Type} (bitio_Reader_ok:bitio_Reader_ok_t R) (bitio_Reader_Align_p0:bitio_Reader_Align_p0_t R) (bitio_Reader_Align_p1:bitio_Reader_Align_p1_t R) (k:Nat) (p913:Oa) (n914:Int) (H:Heap) (K:Xit → Env → Heap → Option R):evJ (bitio_Reader_Align_Ct bitio_Reader_ok) (bitio_Reader_Align_Jt k bitio_Reader_Align_p0 bitio_Reader_Align_p1) bitio_Reader_Align_i1 (List.zip [0,4] [.pointer p913,.int .u8 n914]) H (fun x e' H' => K x (clean e' ((⟨[0,42],[],[]⟩:Out).of x)) H') = bitio_Reader_Align_p1_b k p913 n914 H (fun p1697 t1698 => K .normal [(0,.pointer p1697),(42,.bool t1698)] H):=by kernel_rfl
theorem bitio_Reader_Align_j1 {R:Type} (k:Nat):JS Try.prog 78 (bitio_Reader_Align_a1 R k k) [0,4] ⟨[0,42],[],[]⟩ (sel [1,1,1,1,1,0,0] (Try.f48.body.getD .skip)) :=
  piece_ok (nt:=78) (c:=(sel [1,1,1,1,1,0,0] (Try.f48.body.getD .skip))) (C:=bitio_Reader_Align_C R k) (an:=An) (t:=(.reg [0,42] [])) (ic:=bitio_Reader_Align_i1) (bitio_Reader_Align_S R k) (bitio_Reader_Align_J R k) (by kernel_rfl) True.intro (bitio_Reader_Align_a1 R k k)
    (fun vals H K r h => by
      unfold bitio_Reader_Align_a1 bitio_Reader_Align_aa1 at h
      split at h <;> first | (cases h; done) | exact Eq.trans (bitio_Reader_Align_e1 bitio_Reader_ok (bitio_Reader_Align_p0 k) (bitio_Reader_Align_p1 k) k _ _ H K) h)
theorem bitio_Reader_Align_e0 {R:Type} (bitio_Reader_ok:bitio_Reader_ok_t R) (bitio_Reader_Align_p0:bitio_Reader_Align_p0_t R) (bitio_Reader_Align_p1:bitio_Reader_Align_p1_t R) (k:Nat) (p911:Oa) (n912:Int) (H:Heap) (K:Xit → Env → Heap → Option R):evJ (bitio_Reader_Align_Ct bitio_Reader_ok) (bitio_Reader_Align_Jt k bitio_Reader_Align_p0 bitio_Reader_Align_p1) bitio_Reader_Align_i0 (List.zip [0,4] [.pointer p911,.int .u8 n912]) H (fun x e' H' => K x (clean e' ((⟨[0],[],[2,3]⟩:Out).of x)) H') = bitio_Reader_Align_p0_b bitio_Reader_Align_p1 k p911 n912 H (fun p1694 H => K .normal [(0,.pointer p1694)] H) (fun n1695 n1696 H => K .ret [(2,.int .i64 n1695),(3,.int .i64 n1696)] H):=by kernel_rfl
theorem bitio_Reader_Align_j0 {R:Type} (k:Nat):JS Try.prog 78 (bitio_Reader_Align_a0 R k k) [0,4] ⟨[0],[],[2,3]⟩ (sel [1,1,1,1,1,0] (Try.f48.body.getD .skip)) :=
  piece_ok (nt:=78) (c:=(sel [1,1,1,1,1,0] (Try.f48.body.getD .skip))) (C:=bitio_Reader_Align_C R k) (an:=An) (t:=(.seq (.opq 1 [0,4] ⟨[0,42],[],[]⟩ (.reg [0,42] [])) (.cond (.seq (.seq (.reg [0,52] [[],[0],[0,1],[0,1,2],[],[4],[4,5],[4,5,6],[4,5,6,7],[0,1,2,3,4,5,6,7,8]]) (.cond (.seq (.reg [2,3] []) .leaf) .leaf)) (.seq (.seq (.reg [0,63] [[],[0],[0,1],[0,1,2],[],[4],[4,5],[4,5,6],[0,1,2,3,4,5,6,7],[0,1,2,3,4,5,6,7,8],[0,1,2,3,4,5,6,7,8,9]]) (.cond (.seq (.reg [2,3] []) .leaf) .leaf)) (.reg [0] []))) .leaf))) (ic:=bitio_Reader_Align_i0) (bitio_Reader_Align_S R k) (bitio_Reader_Align_J R k) (by kernel_rfl) (And.intro (bitio_Reader_Align_j1 k) (And.intro (And.intro (And.intro True.intro (And.intro (And.intro True.intro True.intro) True.intro)) (And.intro (And.intro True.intro (And.intro (And.intro True.intro True.intro) True.intro)) True.intro)) True.intro)) (bitio_Reader_Align_a0 R k k)
    (fun vals H K r h => by
      unfold bitio_Reader_Align_a0 bitio_Reader_Align_aa0 at h
      split at h <;> first | (cases h; done) | exact Eq.trans (bitio_Reader_Align_e0 bitio_Reader_ok (bitio_Reader_Align_p0 k) (bitio_Reader_Align_p1 k) k _ _ H K) h)
def bitio_Reader_Align_ca {R:Type} (f:bitio_Reader_Align_t R) (args:List Value) (H:Heap) (K:Value → Heap → Option R):Option R :=
  match args with
  | [.pointer p891] => f p891 H (fun n1699 n1700 H => K (.tuple ⟨[.int .i64 n1699,.int .i64 n1700]⟩) H)
  | _ => none
def bitio_Reader_Align_c (R:Type) (k:Nat) (args:List Value) (H:Heap) (K:Value → Heap → Option R):Option R:=bitio_Reader_Align_ca (bitio_Reader_Align k) args H K
theorem bitio_Reader_Align_e {R:Type} (bitio_Reader_ok:bitio_Reader_ok_t R) (bitio_Reader_Align_p0:bitio_Reader_Align_p0_t R) (bitio_Reader_Align_p1:bitio_Reader_Align_p1_t R) (k:Nat) (p891:Oa) (H:Heap) (K:Value → Heap → Option R):evF (bitio_Reader_Align_Ct bitio_Reader_ok) (bitio_Reader_Align_Jt k bitio_Reader_Align_p0 bitio_Reader_Align_p1) bitio_Reader_Align_f [.pointer p891] H K = bitio_Reader_Align_b bitio_Reader_ok bitio_Reader_Align_p0 k p891 H (fun n1699 n1700 H => K (.tuple ⟨[.int .i64 n1699,.int .i64 n1700]⟩) H):=by kernel_rfl
theorem bitio_Reader_Align_cs (R:Type) (k:Nat):∀ args H K r,bitio_Reader_Align_c R k args H K = some r → ∃ v H',Tri Try.prog 48 args H v H' ∧ K v H' = some r:=by
  intro args H K r h
  unfold bitio_Reader_Align_c bitio_Reader_Align_ca at h
  split at h
  · exact evF_ok (C:=bitio_Reader_Align_C R k) (an:=An) (t:=bitio_Reader_Align_at) (fn:=Try.f48) (c:=(Try.f48.body.getD .skip)) (ifn:=bitio_Reader_Align_f) (bitio_Reader_Align_S R k) (bitio_Reader_Align_J R k) Try.func48 (by kernel_rfl) (by kernel_rfl) (And.intro True.intro (And.intro (And.intro True.intro (And.intro (And.intro True.intro True.intro) True.intro)) (And.intro (And.intro True.intro (And.intro (And.intro True.intro True.intro) True.intro)) (And.intro True.intro (And.intro (And.intro True.intro (And.intro (And.intro True.intro True.intro) True.intro)) (And.intro (bitio_Reader_Align_j0 k) (And.intro True.intro (And.intro True.intro True.intro)))))))) rfl (Eq.trans (bitio_Reader_Align_e bitio_Reader_ok (bitio_Reader_Align_p0 k) (bitio_Reader_Align_p1 k) k _ H K) h)
  · cases h
abbrev pkthead_State_read_p1_t (R:Type):Type:=Oa → Oa → Oa → Nat → Nat → Int → Bool → Int → Int → Heap → (Oa → Oa → Oa → Nat → Nat → Int → Bool → Int → Int → Heap → Option R) → (Oa → Nat → Nat → Int → Int → Heap → Option R) → Option R
def pkthead_State_read_p1_b {R:Type} (pkthead_State_contributes:pkthead_State_contributes_t R) (pkthead_State_lengths:pkthead_State_lengths_t R) (k:Nat) (p779:Oa) (p780:Oa) (q781:Oa) (l782:Nat) (c783:Nat) (n784:Int) (t785:Bool) (n786:Int) (n787:Int) (H:Heap) (KN:Oa → Oa → Oa → Nat → Nat → Int → Bool → Int → Int → Heap → Option R) (KR:Oa → Nat → Nat → Int → Int → Heap → Option R):Option R :=
hnil p779 fun p788 =>
hfad 9 p788 fun p789 =>
ldL H p789 fun q790 l791 c792 =>
hidx q790 l791 n787 10 fun p793 =>
hnil p793 fun p794 =>
hfad 4 p794 fun p795 =>
ldI .i64 H p795 fun n796 =>
hidx q781 l782 n787 3 fun p797 =>
hfad 0 p797 fun p798 =>
hst1 H p798 (.int .i64 n796) fun H799 =>
bif (n784 == 0) then (KN p779 p780 q781 l782 c783 n784 t785 n786 n787 H799)
 else (pkthead_State_contributes p779 p780 p793 H799 fun t800 n801 H802 =>
bif (n801 != 0) then (KR none 0 0 0 n801 H802)
 else (bif (!t800) then (KN p779 p780 q781 l782 c783 n784 t785 n786 n787 H802)
 else (pkthead_State_lengths p779 p780 p793 H802 fun n803 n804 q805 l806 c807 n808 H809 =>
hidx q781 l782 n787 3 fun p810 =>
hst H809 p810 [.int .i64 n803,.int .i64 n804,.slice q805 l806 c807] fun H811 =>
bif (n808 != 0) then (KR none 0 0 0 n808 H811)
 else (KN p779 p780 q781 l782 c783 n784 true n786 n787 H811))))
def pkthead_State_read_p1 {R:Type} (k:Nat) (p779:Oa) (p780:Oa) (q781:Oa) (l782:Nat) (c783:Nat) (n784:Int) (t785:Bool) (n786:Int) (n787:Int) (H:Heap) (KN:Oa → Oa → Oa → Nat → Nat → Int → Bool → Int → Int → Heap → Option R) (KR:Oa → Nat → Nat → Int → Int → Heap → Option R):Option R:=pkthead_State_read_p1_b (pkthead_State_contributes k) (pkthead_State_lengths k) k p779 p780 q781 l782 c783 n784 t785 n786 n787 H KN KR
abbrev pkthead_State_read_l0_t (R:Type):Type:=(Oa → Oa → Oa → Nat → Nat → Int → Bool → Heap → Option R) → (Oa → Nat → Nat → Int → Int → Heap → Option R) → Nat → Oa → Oa → Oa → Nat → Nat → Int → Bool → Int → Int → Heap → Option R
def pkthead_State_read_l0_b {R:Type} (pkthead_State_read_p1:pkthead_State_read_p1_t R) (rec:Oa → Oa → Oa → Nat → Nat → Int → Bool → Int → Int → Heap → Option R) (KE0:Oa → Oa → Oa → Nat → Nat → Int → Bool → Heap → Option R) (KR:Oa → Nat → Nat → Int → Int → Heap → Option R) (k:Nat) (p770:Oa) (p771:Oa) (q772:Oa) (l773:Nat) (c774:Nat) (n775:Int) (t776:Bool) (n777:Int) (n778:Int) (H:Heap):Option R :=
bif decide (n778 < n777) then (pkthead_State_read_p1 p770 p771 q772 l773 c774 n775 t776 n777 n778 H (fun p826 p827 q828 l829 c830 n831 t832 n833 n834 H835 =>
rec p826 p827 q828 l829 c830 n831 t832 n833 (IntKind.wrap .i64 (n834 + 1)) H835) (fun q836 l837 c838 n839 n840 H841 =>
KR q836 l837 c838 n839 n840 H841))
 else (KE0 p770 p771 q772 l773 c774 n775 t776 H)
def pkthead_State_read_l0 {R:Type} (k:Nat) (KE0:Oa → Oa → Oa → Nat → Nat → Int → Bool → Heap → Option R) (KR:Oa → Nat → Nat → Int → Int → Heap → Option R):Nat → Oa → Oa → Oa → Nat → Nat → Int → Bool → Int → Int → Heap → Option R
  | 0,_,_,_,_,_,_,_,_,_,_ => none
  | n + 1,p770,p771,q772,l773,c774,n775,t776,n777,n778,H => pkthead_State_read_l0_b (pkthead_State_read_p1 k) (pkthead_State_read_l0 k KE0 KR n) KE0 KR k p770 p771 q772 l773 c774 n775 t776 n777 n778 H
abbrev pkthead_State_read_p2_t (R:Type):Type:=Oa → Oa → Oa → Nat → Nat → Int → Bool → (Oa → Oa → Oa → Nat → Nat → Option R) → (Oa → Nat → Nat → Int → Int → Option R) → Option R
def pkthead_State_read_p2_b {R:Type} (k:Nat) (p862:Oa) (p863:Oa) (q864:Oa) (l865:Nat) (c866:Nat) (n867:Int) (t868:Bool) (KN:Oa → Oa → Oa → Nat → Nat → Option R) (KR:Oa → Nat → Nat → Int → Int → Option R):Option R :=
bif (n867 == 1) then (bif (!t868) then (KR none 0 0 0 15)
 else (KN p862 p863 q864 l865 c866))
 else (KN p862 p863 q864 l865 c866)
def pkthead_State_read_p2 {R:Type} (k:Nat) (p862:Oa) (p863:Oa) (q864:Oa) (l865:Nat) (c866:Nat) (n867:Int) (t868:Bool) (KN:Oa → Oa → Oa → Nat → Nat → Option R) (KR:Oa → Nat → Nat → Int → Int → Option R):Option R:=pkthead_State_read_p2_b k p862 p863 q864 l865 c866 n867 t868 KN KR
abbrev pkthead_State_read_t (R:Type):Type:=Oa → Oa → Heap → (Oa → Nat → Nat → Int → Int → Heap → Option R) → Option R
def pkthead_State_read_b {R:Type} (bitio_Reader_Get:bitio_Reader_Get_t R) (pkthead_State_read_l0:pkthead_State_read_l0_t R) (pkthead_State_read_p2:pkthead_State_read_p2_t R) (bitio_Reader_Align:bitio_Reader_Align_t R) (k:Nat) (p751:Oa) (p752:Oa) (H:Heap) (K:Oa → Nat → Nat → Int → Int → Heap → Option R):Option R :=
hnil p751 fun p753 =>
hfad 9 p753 fun p754 =>
ldL H p754 fun q755 l756 c757 =>
hmk [.int .i64 0,.int .i64 0,.slice none 0 0] 40 H ((l756:Nat):Int) ((l756:Nat):Int) fun q758 l759 c760 H761 =>
bitio_Reader_Get p752 H761 fun n762 n763 H764 =>
bif (n763 != 0) then (K none 0 0 0 n763 H764)
 else (hnil p751 fun p765 =>
hfad 9 p765 fun p766 =>
ldL H764 p766 fun q767 l768 c769 =>
pkthead_State_read_l0 (fun p854 p855 q856 l857 c858 n859 t860 H861 =>
pkthead_State_read_p2 p854 p855 q856 l857 c858 n859 t860 (fun p879 p880 q881 l882 c883 =>
bitio_Reader_Align p880 H861 fun n884 n885 H886 =>
bif (n885 != 0) then (K none 0 0 0 n885 H886)
 else (hnil p879 fun p887 =>
hfad 10 p887 fun p888 =>
ldI .i64 H886 p888 fun n889 =>
hnil p879 fun p890 =>
hfad 10 p890 fun p891 =>
hst1 H886 p891 (.int .i64 (IntKind.wrap .i64 (n889 + 1))) fun H892 =>
hnil p879 fun p893 =>
hfad 2 p893 fun p894 =>
hst1 H892 p894 (.bool true) fun H895 =>
K q881 l882 c883 n884 0 H895)) (fun q896 l897 c898 n899 n900 =>
K q896 l897 c898 n899 n900 H861)) (fun q901 l902 c903 n904 n905 H906 =>
K q901 l902 c903 n904 n905 H906) k p751 p752 q758 l759 c760 n762 false ((l768:Nat):Int) 0 H764)
def pkthead_State_read {R:Type} (k:Nat) (p751:Oa) (p752:Oa) (H:Heap) (K:Oa → Nat → Nat → Int → Int → Heap → Option R):Option R:=pkthead_State_read_b (bitio_Reader_Get k) (pkthead_State_read_l0 k) (pkthead_State_read_p2 k) (bitio_Reader_Align k) k p751 p752 H K
def pkthead_State_read_Ct {R:Type} (bitio_Reader_Get:bitio_Reader_Get_t R) (pkthead_State_contributes:pkthead_State_contributes_t R) (pkthead_State_lengths:pkthead_State_lengths_t R) (bitio_Reader_Align:bitio_Reader_Align_t R):Tab R:=tcons 45 (bitio_Reader_Get_ca bitio_Reader_Get) <| tcons 46 (pkthead_State_contributes_ca pkthead_State_contributes) <| tcons 47 (pkthead_State_lengths_ca pkthead_State_lengths) <| tcons 48 (bitio_Reader_Align_ca bitio_Reader_Align) <| fun _ _ _ _ => none
def pkthead_State_read_C (R:Type) (k:Nat):Tab R:=pkthead_State_read_Ct (bitio_Reader_Get k) (pkthead_State_contributes k) (pkthead_State_lengths k) (bitio_Reader_Align k)
theorem pkthead_State_read_S (R:Type) (k:Nat):CSound Try.prog (pkthead_State_read_C R k):=csound_cons (bitio_Reader_Get_cs R k) <| csound_cons (pkthead_State_contributes_cs R k) <| csound_cons (pkthead_State_lengths_cs R k) <| csound_cons (bitio_Reader_Align_cs R k) <| csound_nil
def pkthead_State_read_aa0 {R:Type} (f:pkthead_State_read_l0_t R) (n:Nat) (vals:List Value) (H:Heap) (K:Xit → Env → Heap → Option R):Option R :=
  match vals with
  | [.pointer p770,.pointer p771,.slice q772 l773 c774,.int .i64 n775,.bool t776,.int .i64 n777,.int .i64 n778] => f (fun p1701 p1702 q1703 l1704 c1705 n1706 t1707 H => K (.exit 0) [(0,.pointer p1701),(1,.pointer p1702),(7,.slice q1703 l1704 c1705),(8,.int .i64 n1706),(10,.bool t1707)] H) (fun q1708 l1709 c1710 n1711 n1712 H => K .ret [(4,.slice q1708 l1709 c1710),(5,.int .i64 n1711),(6,.int .i64 n1712)] H) n p770 p771 q772 l773 c774 n775 t776 n777 n778 H
  | _ => none
def pkthead_State_read_a0 (R:Type) (k n:Nat) (vals:List Value) (H:Heap) (K:Xit → Env → Heap → Option R):Option R:=pkthead_State_read_aa0 (pkthead_State_read_l0 k) n vals H K
def pkthead_State_read_aa1 {R:Type} (f:pkthead_State_read_p1_t R) (n:Nat) (vals:List Value) (H:Heap) (K:Xit → Env → Heap → Option R):Option R :=
  match vals with
  | [.pointer p779,.pointer p780,.slice q781 l782 c783,.int .i64 n784,.bool t785,.int .i64 n786,.int .i64 n787] => f p779 p780 q781 l782 c783 n784 t785 n786 n787 H (fun p1713 p1714 q1715 l1716 c1717 n1718 t1719 n1720 n1721 H => K .normal [(0,.pointer p1713),(1,.pointer p1714),(7,.slice q1715 l1716 c1717),(8,.int .i64 n1718),(10,.bool t1719),(34,.int .i64 n1720),(35,.int .i64 n1721)] H) (fun q1722 l1723 c1724 n1725 n1726 H => K .ret [(4,.slice q1722 l1723 c1724),(5,.int .i64 n1725),(6,.int .i64 n1726)] H)
  | _ => none
def pkthead_State_read_a1 (R:Type) (k n:Nat) (vals:List Value) (H:Heap) (K:Xit → Env → Heap → Option R):Option R:=pkthead_State_read_aa1 (pkthead_State_read_p1 k) n vals H K
def pkthead_State_read_aa2 {R:Type} (f:pkthead_State_read_p2_t R) (n:Nat) (vals:List Value) (H:Heap) (K:Xit → Env → Heap → Option R):Option R :=
  match vals with
  | [.pointer p862,.pointer p863,.slice q864 l865 c866,.int .i64 n867,.bool t868] => f p862 p863 q864 l865 c866 n867 t868 (fun p1727 p1728 q1729 l1730 c1731 => K .normal [(0,.pointer p1727),(1,.pointer p1728),(7,.slice q1729 l1730 c1731)] H) (fun q1732 l1733 c1734 n1735 n1736 => K .ret [(4,.slice q1732 l1733 c1734),(5,.int .i64 n1735),(6,.int .i64 n1736)] H)
  | _ => none
def pkthead_State_read_a2 (R:Type) (k n:Nat) (vals:List Value) (H:Heap) (K:Xit → Env → Heap → Option R):Option R:=pkthead_State_read_aa2 (pkthead_State_read_p2 k) n vals H K
def pkthead_State_read_Jt {R:Type} (k:Nat) (pkthead_State_read_l0:pkthead_State_read_l0_t R) (pkthead_State_read_p1:pkthead_State_read_p1_t R) (pkthead_State_read_p2:pkthead_State_read_p2_t R):JTab R:=tcons 0 (pkthead_State_read_aa0 pkthead_State_read_l0 k) <| tcons 1 (pkthead_State_read_aa1 pkthead_State_read_p1 k) <| tcons 2 (pkthead_State_read_aa2 pkthead_State_read_p2 k) <| fun _ _ _ _ => none
def pkthead_State_read_J (R:Type) (k:Nat):JTab R:=pkthead_State_read_Jt k (pkthead_State_read_l0 k) (pkthead_State_read_p1 k) (pkthead_State_read_p2 k)
def pkthead_State_read_at:AT:=(.seq (.reg [0,1] []) (.seq (.reg [0,1,7] []) (.seq (.reg [0,1,7,8,9] []) (.seq (.seq (.reg [0,1,7,8,9,28] []) (.cond (.seq (.reg [4,5,6] []) .leaf) .leaf)) (.seq (.reg [0,1,7,8,10] []) (.seq (.seq (.reg [0,1,7,8,10,34,35] []) (.node (.opq 0 [0,1,7,8,10,34,35] ⟨[],[(0,[0,1,7,8,10])],[4,5,6]⟩ (.node (.seq (.reg [0,1,7,8,10,34,35,36] []) (.seq (.cond .leaf .leaf) (.seq (.opq 1 [0,1,7,8,10,34,35] ⟨[0,1,7,8,10,34,35],[],[4,5,6]⟩ (.node (.seq (.reg [0,1,7,8,10,11,34,35] []) (.seq (.reg [0,1,7,8,10,11,12,34,35] []) (.seq (.reg [0,1,7,8,10,11,12,34,35] []) (.seq (.seq (.reg [0,1,7,8,10,11,12,34,35,53] []) (.cond .leaf .leaf)) (.seq (.reg [0,1,7,8,10,11,12,13,14,34,35] []) (.seq (.seq (.reg [0,1,7,8,10,11,12,13,14,34,35,62] []) (.cond (.seq (.reg [4,5,6] []) .leaf) .leaf)) (.seq (.seq (.reg [0,1,7,8,10,11,12,34,35,65] []) (.cond .leaf .leaf)) (.seq (.reg [0,1,7,8,10,11,12,34,35] []) (.seq (.reg [0,1,7,8,10,14,34,35] []) (.seq (.reg [0,1,7,8,10,14,34,35,77] []) (.cond (.seq (.reg [4,5,6] []) .leaf) .leaf))))))))))))) (.reg [0,1,7,8,10,34,35] [])))))))) (.seq (.opq 2 [0,1,7,8,10] ⟨[0,1,7],[],[4,5,6]⟩ (.seq (.reg [0,1,7,85] []) (.cond (.seq (.reg [4,5,6] []) .leaf) .leaf))) (.seq (.reg [0,7,9,15] []) (.seq (.seq (.reg [0,7,9,15,92] []) (.cond (.seq (.reg [4,5,6] []) .leaf) .leaf)) (.seq (.reg [0,7,15] []) (.seq (.reg [7,15] []) (.seq (.reg [4,5,6] []) .leaf))))))))))))
def pkthead_State_read_i2:IC:=(.seq (.reg [⟨some 80,.mov (.t 8),none⟩,
⟨some 81,.cmp .eql (.t 80) (.c (Go.Value.int Go.IntKind.i64 1)),none⟩,
⟨some 82,.mov (.t 81),none⟩,
⟨some 83,.mov (.t 10),some (82,true)⟩,
⟨some 84,.lnot (.t 83),some (82,true)⟩,
⟨some 85,.pick (.t 82) (.t 84) (.c (Go.Value.bool false)),none⟩] [0,1,7,85]) (.cond (.t 85) (.seq (.reg [⟨some 4,.mov (.c (Go.Value.slice none 0 0)),none⟩,
⟨some 5,.mov (.c (Go.Value.int Go.IntKind.i64 0)),none⟩,
⟨some 6,.mov (.c (Go.Value.int Go.IntKind.i64 15)),none⟩] [4,5,6]) .ret) .skip))
def pkthead_State_read_i1:IC:=(.block 1 (.seq (.reg [⟨some 37,.mov (.t 35),none⟩,
⟨some 11,.mov (.t 37),none⟩] [0,1,7,8,10,11,34,35]) (.seq (.reg [⟨some 38,.mov (.t 0),none⟩,
⟨some 39,.nilc (.t 38),none⟩,
⟨some 40,.fad 9 (.t 39),none⟩,
⟨some 41,.ld (.sc .slc) (.t 40),none⟩,
⟨some 42,.mov (.t 11),none⟩,
⟨some 43,.ids 10 (.t 41) (.t 42),none⟩,
⟨some 12,.mov (.t 43),none⟩] [0,1,7,8,10,11,12,34,35]) (.seq (.reg [⟨some 44,.mov (.t 7),none⟩,
⟨some 45,.mov (.t 11),none⟩,
⟨some 46,.mov (.t 12),none⟩,
⟨some 47,.nilc (.t 46),none⟩,
⟨some 48,.fad 4 (.t 47),none⟩,
⟨some 49,.ld (.sc (.int .i64)) (.t 48),none⟩,
⟨some 50,.ids 3 (.t 44) (.t 45),none⟩,
⟨some 51,.fad 0 (.t 50),none⟩,
⟨none,.st 1 (.t 51) (.t 49),none⟩] [0,1,7,8,10,11,12,34,35]) (.seq (.seq (.reg [⟨some 52,.mov (.t 8),none⟩,
⟨some 53,.cmp .eql (.t 52) (.c (Go.Value.int Go.IntKind.i64 0)),none⟩] [0,1,7,8,10,11,12,34,35,53]) (.cond (.t 53) (.exit 1) .skip)) (.seq (.reg [⟨some 55,.mov (.t 0),none⟩,
⟨some 56,.mov (.t 1),none⟩,
⟨some 57,.mov (.t 12),none⟩,
⟨some 58,.call 46 [(.t 55),(.t 56),(.t 57)] (.tup [(.sc .bool),(.sc (.int .i64))]),none⟩,
⟨some 54,.mov (.t 58),none⟩,
⟨some 59,.ext 0 (.t 54),none⟩,
⟨some 60,.ext 1 (.t 54),none⟩,
⟨some 13,.mov (.t 59),none⟩,
⟨some 14,.mov (.t 60),none⟩] [0,1,7,8,10,11,12,13,14,34,35]) (.seq (.seq (.reg [⟨some 61,.mov (.t 14),none⟩,
⟨some 62,.cmp .neq (.t 61) (.c (Go.Value.int Go.IntKind.i64 0)),none⟩] [0,1,7,8,10,11,12,13,14,34,35,62]) (.cond (.t 62) (.seq (.reg [⟨some 63,.mov (.t 14),none⟩,
⟨some 4,.mov (.c (Go.Value.slice none 0 0)),none⟩,
⟨some 5,.mov (.c (Go.Value.int Go.IntKind.i64 0)),none⟩,
⟨some 6,.mov (.t 63),none⟩] [4,5,6]) .ret) .skip)) (.seq (.seq (.reg [⟨some 64,.mov (.t 13),none⟩,
⟨some 65,.lnot (.t 64),none⟩] [0,1,7,8,10,11,12,34,35,65]) (.cond (.t 65) (.exit 1) .skip)) (.seq (.reg [⟨some 10,.mov (.c (Go.Value.bool true)),none⟩] [0,1,7,8,10,11,12,34,35]) (.seq (.reg [⟨some 67,.mov (.t 7),none⟩,
⟨some 68,.mov (.t 11),none⟩,
⟨some 69,.mov (.t 0),none⟩,
⟨some 70,.mov (.t 1),none⟩,
⟨some 71,.mov (.t 12),none⟩,
⟨some 72,.call 47 [(.t 69),(.t 70),(.t 71)] (.tup [(.agg [(.int .i64),(.int .i64),.slc]),(.sc (.int .i64))]),none⟩,
⟨some 66,.mov (.t 72),none⟩,
⟨some 73,.ext 0 (.t 66),none⟩,
⟨some 74,.ext 1 (.t 66),none⟩,
⟨some 75,.ids 3 (.t 67) (.t 68),none⟩,
⟨none,.st 3 (.t 75) (.t 73),none⟩,
⟨some 14,.mov (.t 74),none⟩] [0,1,7,8,10,14,34,35]) (.seq (.reg [⟨some 76,.mov (.t 14),none⟩,
⟨some 77,.cmp .neq (.t 76) (.c (Go.Value.int Go.IntKind.i64 0)),none⟩] [0,1,7,8,10,14,34,35,77]) (.cond (.t 77) (.seq (.reg [⟨some 78,.mov (.t 14),none⟩,
⟨some 4,.mov (.c (Go.Value.slice none 0 0)),none⟩,
⟨some 5,.mov (.c (Go.Value.int Go.IntKind.i64 0)),none⟩,
⟨some 6,.mov (.t 78),none⟩] [4,5,6]) .ret) .skip))))))))))))
def pkthead_State_read_i0:IC:=(.seq (.reg [⟨some 36,.cmp .lss (.t 35) (.t 34),none⟩] [0,1,7,8,10,34,35,36]) (.seq (.cond (.t 36) .skip (.exit 0)) (.seq (.opq 1 [0,1,7,8,10,34,35] pkthead_State_read_i1) (.reg [⟨some 79,.bin .add .i64 (.t 35) (.c (Go.Value.int Go.IntKind.i64 1)),none⟩,
⟨some 35,.mov (.t 79),none⟩] [0,1,7,8,10,34,35]))))
def pkthead_State_read_f:IFn:=⟨106,[.t 4,.t 5,.t 6],(.seq (.reg [⟨some 4,.mov (.c (Go.Value.slice none 0 0)),none⟩,
⟨some 5,.mov (.c (Go.Value.int Go.IntKind.i64 0)),none⟩,
⟨some 6,.mov (.c (Go.Value.int Go.IntKind.i64 0)),none⟩] [0,1]) (.seq (.reg [⟨some 16,.mov (.t 0),none⟩,
⟨some 17,.nilc (.t 16),none⟩,
⟨some 18,.fad 9 (.t 17),none⟩,
⟨some 19,.ld (.sc .slc) (.t 18),none⟩,
⟨some 20,.len false (.t 19),none⟩,
⟨some 21,.mks [.int .i64 0,.int .i64 0,.slice none 0 0] 40 (.t 20) (.t 20),none⟩,
⟨some 7,.mov (.t 21),none⟩] [0,1,7]) (.seq (.reg [⟨some 23,.mov (.t 1),none⟩,
⟨some 24,.call 45 [(.t 23)] (.tup [(.sc (.int .i64)),(.sc (.int .i64))]),none⟩,
⟨some 22,.mov (.t 24),none⟩,
⟨some 25,.ext 0 (.t 22),none⟩,
⟨some 26,.ext 1 (.t 22),none⟩,
⟨some 8,.mov (.t 25),none⟩,
⟨some 9,.mov (.t 26),none⟩] [0,1,7,8,9]) (.seq (.seq (.reg [⟨some 27,.mov (.t 9),none⟩,
⟨some 28,.cmp .neq (.t 27) (.c (Go.Value.int Go.IntKind.i64 0)),none⟩] [0,1,7,8,9,28]) (.cond (.t 28) (.seq (.reg [⟨some 29,.mov (.t 9),none⟩,
⟨some 4,.mov (.c (Go.Value.slice none 0 0)),none⟩,
⟨some 5,.mov (.c (Go.Value.int Go.IntKind.i64 0)),none⟩,
⟨some 6,.mov (.t 29),none⟩] [4,5,6]) .ret) .skip)) (.seq (.reg [⟨some 10,.mov (.c (Go.Value.bool false)),none⟩] [0,1,7,8,10]) (.seq (.seq (.reg [⟨some 30,.mov (.t 0),none⟩,
⟨some 31,.nilc (.t 30),none⟩,
⟨some 32,.fad 9 (.t 31),none⟩,
⟨some 33,.ld (.sc .slc) (.t 32),none⟩,
⟨some 34,.len false (.t 33),none⟩,
⟨some 35,.mov (.c (Go.Value.int Go.IntKind.i64 0)),none⟩] [0,1,7,8,10,34,35]) (.block 0 (.opq 0 [0,1,7,8,10,34,35] (.loop pkthead_State_read_i0)))) (.seq (.opq 2 [0,1,7,8,10] pkthead_State_read_i2) (.seq (.reg [⟨some 87,.mov (.t 1),none⟩,
⟨some 88,.call 48 [(.t 87)] (.tup [(.sc (.int .i64)),(.sc (.int .i64))]),none⟩,
⟨some 86,.mov (.t 88),none⟩,
⟨some 89,.ext 0 (.t 86),none⟩,
⟨some 90,.ext 1 (.t 86),none⟩,
⟨some 15,.mov (.t 89),none⟩,
⟨some 9,.mov (.t 90),none⟩] [0,7,9,15]) (.seq (.seq (.reg [⟨some 91,.mov (.t 9),none⟩,
⟨some 92,.cmp .neq (.t 91) (.c (Go.Value.int Go.IntKind.i64 0)),none⟩] [0,7,9,15,92]) (.cond (.t 92) (.seq (.reg [⟨some 93,.mov (.t 9),none⟩,
⟨some 4,.mov (.c (Go.Value.slice none 0 0)),none⟩,
⟨some 5,.mov (.c (Go.Value.int Go.IntKind.i64 0)),none⟩,
⟨some 6,.mov (.t 93),none⟩] [4,5,6]) .ret) .skip)) (.seq (.reg [⟨some 94,.mov (.t 0),none⟩,
⟨some 95,.nilc (.t 94),none⟩,
⟨some 96,.fad 10 (.t 95),none⟩,
⟨some 97,.ld (.sc (.int .i64)) (.t 96),none⟩,
⟨some 98,.bin .add .i64 (.t 97) (.c (Go.Value.int Go.IntKind.i64 1)),none⟩,
⟨some 99,.nilc (.t 94),none⟩,
⟨some 100,.fad 10 (.t 99),none⟩,
⟨none,.st 1 (.t 100) (.t 98),none⟩] [0,7,15]) (.seq (.reg [⟨some 101,.mov (.t 0),none⟩,
⟨some 102,.nilc (.t 101),none⟩,
⟨some 103,.fad 2 (.t 102),none⟩,
⟨none,.st 1 (.t 103) (.c (Go.Value.bool true)),none⟩] [7,15]) (.seq (.reg [⟨some 104,.mov (.t 7),none⟩,
⟨some 105,.mov (.t 15),none⟩,
⟨some 4,.mov (.t 104),none⟩,
⟨some 5,.mov (.t 105),none⟩,
⟨some 6,.mov (.c (Go.Value.int Go.IntKind.i64 0)),none⟩] [4,5,6]) .ret))))))))))))⟩
theorem pkthead_State_read_e2 {R:Type} (bitio_Reader_Get:bitio_Reader_Get_t R) (pkthead_State_contributes:pkthead_State_contributes_t R) (pkthead_State_lengths:pkthead_State_lengths_t R) (bitio_Reader_Align:bitio_Reader_Align_t R) (pkthead_State_read_l0:pkthead_State_read_l0_t R) (pkthead_State_read_p1:pkthead_State_read_p1_t R) (pkthead_State_read_p2:pkthead_State_read_p2_t R) (k:Nat) (p862:Oa) (p863:Oa) (q864:Oa) (l865:Nat) (c866:Nat) (n867:Int) (t868:Bool) (H:Heap) (K:Xit → Env → Heap → Option R):evJ (pkthead_State_read_Ct bitio_Reader_Get pkthead_State_contributes pkthead_State_lengths bitio_Reader_Align) (pkthead_State_read_Jt k pkthead_State_read_l0 pkthead_State_read_p1 pkthead_State_read_p2) pkthead_State_read_i2 (List.zip [0,1,7,8,10] [.pointer p862,.pointer p863,.slice q864 l865 c866,.int .i64 n867,.bool t868]) H (fun x e' H' => K x (clean e' ((⟨[0,1,7],[],[4,5,6]⟩:Out).of x)) H') = pkthead_State_read_p2_b k p862 p863 q864 l865 c866 n867 t868 (fun p1727 p1728 q1729 l1730 c1731 => K .normal [(0,.pointer p1727),(1,.pointer p1728),(7,.slice q1729 l1730 c1731)] H) (fun q1732 l1733 c1734 n1735 n1736 => K .ret [(4,.slice q1732 l1733 c1734),(5,.int .i64 n1735),(6,.int .i64 n1736)] H):=by kernel_rfl
theorem pkthead_State_read_j2 {R:Type} (k:Nat):JS Try.prog 106 (pkthead_State_read_a2 R k k) [0,1,7,8,10] ⟨[0,1,7],[],[4,5,6]⟩ (sel [1,1,1,1,1,1,0] (Try.f31.body.getD .skip)) :=
  piece_ok (nt:=106) (c:=(sel [1,1,1,1,1,1,0] (Try.f31.body.getD .skip))) (C:=pkthead_State_read_C R k) (an:=An) (t:=(.seq (.reg [0,1,7,85] []) (.cond (.seq (.reg [4,5,6] []) .leaf) .leaf))) (ic:=pkthead_State_read_i2) (pkthead_State_read_S R k) (pkthead_State_read_J R k) (by kernel_rfl) (And.intro True.intro (And.intro (And.intro True.intro True.intro) True.intro)) (pkthead_State_read_a2 R k k)
    (fun vals H K r h => by
      unfold pkthead_State_read_a2 pkthead_State_read_aa2 at h
      split at h <;> first | (cases h; done) | exact Eq.trans (pkthead_State_read_e2 (bitio_Reader_Get k) (pkthead_State_contributes k) (pkthead_State_lengths k) (bitio_Reader_Align k) (pkthead_State_read_l0 k) (pkthead_State_read_p1 k) (pkthead_State_read_p2 k) k _ _ _ _ _ _ _ H K) h)
theorem pkthead_State_read_e1 {R:Type} (bitio_Reader_Get:bitio_Reader_Get_t R) (pkthead_State_contributes:pkthead_State_contributes_t R) (pkthead_State_lengths:pkthead_State_lengths_t R) (bitio_Reader_Align:bitio_Reader_Align_t R) (pkthead_State_read_l0:pkthead_State_read_l0_t R) (pkthead_State_read_p1:pkthead_State_read_p1_t R) (pkthead_State_read_p2:pkthead_State_read_p2_t R) (k:Nat) (p779:Oa) (p780:Oa) (q781:Oa) (l782:Nat) (c783:Nat) (n784:Int) (t785:Bool) (n786:Int) (n787:Int) (H:Heap) (K:Xit → Env → Heap → Option R):evJ (pkthead_State_read_Ct bitio_Reader_Get pkthead_State_contributes pkthead_State_lengths bitio_Reader_Align) (pkthead_State_read_Jt k pkthead_State_read_l0 pkthead_State_read_p1 pkthead_State_read_p2) pkthead_State_read_i1 (List.zip [0,1,7,8,10,34,35] [.pointer p779,.pointer p780,.slice q781 l782 c783,.int .i64 n784,.bool t785,.int .i64 n786,.int .i64 n787]) H (fun x e' H' => K x (clean e' ((⟨[0,1,7,8,10,34,35],[],[4,5,6]⟩:Out).of x)) H') = pkthead_State_read_p1_b pkthead_State_contributes pkthead_State_lengths k p779 p780 q781 l782 c783 n784 t785 n786 n787 H (fun p1713 p1714 q1715 l1716 c1717 n1718 t1719 n1720 n1721 H => K .normal [(0,.pointer p1713),(1,.pointer p1714),(7,.slice q1715 l1716 c1717),(8,.int .i64 n1718),(10,.bool t1719),(34,.int .i64 n1720),(35,.int .i64 n1721)] H) (fun q1722 l1723 c1724 n1725 n1726 H => K .ret [(4,.slice q1722 l1723 c1724),(5,.int .i64 n1725),(6,.int .i64 n1726)] H):=by kernel_rfl
theorem pkthead_State_read_j1 {R:Type} (k:Nat):JS Try.prog 106 (pkthead_State_read_a1 R k k) [0,1,7,8,10,34,35] ⟨[0,1,7,8,10,34,35],[],[4,5,6]⟩ (sel [1,1,1,1,1,0,1,0,0,1,1,0] (Try.f31.body.getD .skip)) :=
  piece_ok (nt:=106) (c:=(sel [1,1,1,1,1,0,1,0,0,1,1,0] (Try.f31.body.getD .skip))) (C:=pkthead_State_read_C R k) (an:=An) (t:=(.node (.seq (.reg [0,1,7,8,10,11,34,35] []) (.seq (.reg [0,1,7,8,10,11,12,34,35] []) (.seq (.reg [0,1,7,8,10,11,12,34,35] []) (.seq (.seq (.reg [0,1,7,8,10,11,12,34,35,53] []) (.cond .leaf .leaf)) (.seq (.reg [0,1,7,8,10,11,12,13,14,34,35] []) (.seq (.seq (.reg [0,1,7,8,10,11,12,13,14,34,35,62] []) (.cond (.seq (.reg [4,5,6] []) .leaf) .leaf)) (.seq (.seq (.reg [0,1,7,8,10,11,12,34,35,65] []) (.cond .leaf .leaf)) (.seq (.reg [0,1,7,8,10,11,12,34,35] []) (.seq (.reg [0,1,7,8,10,14,34,35] []) (.seq (.reg [0,1,7,8,10,14,34,35,77] []) (.cond (.seq (.reg [4,5,6] []) .leaf) .leaf))))))))))))) (ic:=pkthead_State_read_i1) (pkthead_State_read_S R k) (pkthead_State_read_J R k) (by kernel_rfl) (And.intro True.intro (And.intro True.intro (And.intro True.intro (And.intro (And.intro True.intro (And.intro True.intro True.intro)) (And.intro True.intro (And.intro (And.intro True.intro (And.intro (And.intro True.intro True.intro) True.intro)) (And.intro (And.intro True.intro (And.intro True.intro True.intro)) (And.intro True.intro (And.intro True.intro (And.intro True.intro (And.intro (And.intro True.intro True.intro) True.intro))))))))))) (pkthead_State_read_a1 R k k)
    (fun vals H K r h => by
      unfold pkthead_State_read_a1 pkthead_State_read_aa1 at h
      split at h <;> first | (cases h; done) | exact Eq.trans (pkthead_State_read_e1 (bitio_Reader_Get k) (pkthead_State_contributes k) (pkthead_State_lengths k) (bitio_Reader_Align k) (pkthead_State_read_l0 k) (pkthead_State_read_p1 k) (pkthead_State_read_p2 k) k _ _ _ _ _ _ _ _ _ H K) h)
theorem pkthead_State_read_e0 {R:Type} (bitio_Reader_Get:bitio_Reader_Get_t R) (pkthead_State_contributes:pkthead_State_contributes_t R) (pkthead_State_lengths:pkthead_State_lengths_t R) (bitio_Reader_Align:bitio_Reader_Align_t R) (pkthead_State_read_l0:pkthead_State_read_l0_t R) (pkthead_State_read_p1:pkthead_State_read_p1_t R) (pkthead_State_read_p2:pkthead_State_read_p2_t R) (k n:Nat) (p770:Oa) (p771:Oa) (q772:Oa) (l773:Nat) (c774:Nat) (n775:Int) (t776:Bool) (n777:Int) (n778:Int) (H:Heap) (K:Xit → Env → Heap → Option R):evJ (pkthead_State_read_Ct bitio_Reader_Get pkthead_State_contributes pkthead_State_lengths bitio_Reader_Align) (pkthead_State_read_Jt k pkthead_State_read_l0 pkthead_State_read_p1 pkthead_State_read_p2) pkthead_State_read_i0 (List.zip [0,1,7,8,10,34,35] [.pointer p770,.pointer p771,.slice q772 l773 c774,.int .i64 n775,.bool t776,.int .i64 n777,.int .i64 n778]) H (fun x e' H' => match x with | .normal => pkthead_State_read_aa0 pkthead_State_read_l0 n ((clean e' [0,1,7,8,10,34,35]).map (·.2)) H' K | x => K x (clean e' ((⟨[],[(0,[0,1,7,8,10])],[4,5,6]⟩:Out).of x)) H') = pkthead_State_read_l0_b pkthead_State_read_p1 (pkthead_State_read_l0 (fun p1701 p1702 q1703 l1704 c1705 n1706 t1707 H => K (.exit 0) [(0,.pointer p1701),(1,.pointer p1702),(7,.slice q1703 l1704 c1705),(8,.int .i64 n1706),(10,.bool t1707)] H) (fun q1708 l1709 c1710 n1711 n1712 H => K .ret [(4,.slice q1708 l1709 c1710),(5,.int .i64 n1711),(6,.int .i64 n1712)] H) n) (fun p1701 p1702 q1703 l1704 c1705 n1706 t1707 H => K (.exit 0) [(0,.pointer p1701),(1,.pointer p1702),(7,.slice q1703 l1704 c1705),(8,.int .i64 n1706),(10,.bool t1707)] H) (fun q1708 l1709 c1710 n1711 n1712 H => K .ret [(4,.slice q1708 l1709 c1710),(5,.int .i64 n1711),(6,.int .i64 n1712)] H) k p770 p771 q772 l773 c774 n775 t776 n777 n778 H:=by kernel_rfl
theorem pkthead_State_read_j0 {R:Type} (k:Nat):JS Try.prog 106 (pkthead_State_read_a0 R k k) [0,1,7,8,10,34,35] ⟨[],[(0,[0,1,7,8,10])],[4,5,6]⟩ (.loop (sel [1,1,1,1,1,0,1,0,0] (Try.f31.body.getD .skip))) :=
  loop_ok (nt:=106) (c:=(sel [1,1,1,1,1,0,1,0,0] (Try.f31.body.getD .skip))) (C:=pkthead_State_read_C R k) (an:=An) (t:=(.seq (.reg [0,1,7,8,10,34,35,36] []) (.seq (.cond .leaf .leaf) (.seq (.opq 1 [0,1,7,8,10,34,35] ⟨[0,1,7,8,10,34,35],[],[4,5,6]⟩ (.node (.seq (.reg [0,1,7,8,10,11,34,35] []) (.seq (.reg [0,1,7,8,10,11,12,34,35] []) (.seq (.reg [0,1,7,8,10,11,12,34,35] []) (.seq (.seq (.reg [0,1,7,8,10,11,12,34,35,53] []) (.cond .leaf .leaf)) (.seq (.reg [0,1,7,8,10,11,12,13,14,34,35] []) (.seq (.seq (.reg [0,1,7,8,10,11,12,13,14,34,35,62] []) (.cond (.seq (.reg [4,5,6] []) .leaf) .leaf)) (.seq (.seq (.reg [0,1,7,8,10,11,12,34,35,65] []) (.cond .leaf .leaf)) (.seq (.reg [0,1,7,8,10,11,12,34,35] []) (.seq (.reg [0,1,7,8,10,14,34,35] []) (.seq (.reg [0,1,7,8,10,14,34,35,77] []) (.cond (.seq (.reg [4,5,6] []) .leaf) .leaf))))))))))))) (.reg [0,1,7,8,10,34,35] []))))) (ic:=pkthead_State_read_i0) (pkthead_State_read_S R k) (pkthead_State_read_J R k) (by kernel_rfl) (And.intro True.intro (And.intro (And.intro True.intro True.intro) (And.intro (pkthead_State_read_j1 k) True.intro))) (pkthead_State_read_a0 R k) (fun vals H K => by unfold pkthead_State_read_a0 pkthead_State_read_aa0; split <;> rfl)
    (fun n vals H K r h => by
      unfold pkthead_State_read_a0 pkthead_State_read_aa0 at h
      split at h <;> first | (cases h; done) | exact Eq.trans (pkthead_State_read_e0 (bitio_Reader_Get k) (pkthead_State_contributes k) (pkthead_State_lengths k) (bitio_Reader_Align k) (pkthead_State_read_l0 k) (pkthead_State_read_p1 k) (pkthead_State_read_p2 k) k n _ _ _ _ _ _ _ _ _ H K) h) k
def pkthead_State_read_ca {R:Type} (f:pkthead_State_read_t R) (args:List Value) (H:Heap) (K:Value → Heap → Option R):Option R :=
  match args with
  | [.pointer p751,.pointer p752] => f p751 p752 H (fun q1737 l1738 c1739 n1740 n1741 H => K (.tuple ⟨[.slice q1737 l1738 c1739,.int .i64 n1740,.int .i64 n1741]⟩) H)
  | _ => none
def pkthead_State_read_c (R:Type) (k:Nat) (args:List Value) (H:Heap) (K:Value → Heap → Option R):Option R:=pkthead_State_read_ca (pkthead_State_read k) args H K
theorem pkthead_State_read_e {R:Type} (bitio_Reader_Get:bitio_Reader_Get_t R) (pkthead_State_contributes:pkthead_State_contributes_t R) (pkthead_State_lengths:pkthead_State_lengths_t R) (bitio_Reader_Align:bitio_Reader_Align_t R) (pkthead_State_read_l0:pkthead_State_read_l0_t R) (pkthead_State_read_p1:pkthead_State_read_p1_t R) (pkthead_State_read_p2:pkthead_State_read_p2_t R) (k:Nat) (p751:Oa) (p752:Oa) (H:Heap) (K:Value → Heap → Option R):evF (pkthead_State_read_Ct bitio_Reader_Get pkthead_State_contributes pkthead_State_lengths bitio_Reader_Align) (pkthead_State_read_Jt k pkthead_State_read_l0 pkthead_State_read_p1 pkthead_State_read_p2) pkthead_State_read_f [.pointer p751,.pointer p752] H K = pkthead_State_read_b bitio_Reader_Get pkthead_State_read_l0 pkthead_State_read_p2 bitio_Reader_Align k p751 p752 H (fun q1737 l1738 c1739 n1740 n1741 H => K (.tuple ⟨[.slice q1737 l1738 c1739,.int .i64 n1740,.int .i64 n1741]⟩) H):=by kernel_rfl
theorem pkthead_State_read_cs (R:Type) (k:Nat):∀ args H K r,pkthead_State_read_c R k args H K = some r → ∃ v H',Tri Try.prog 31 args H v H' ∧ K v H' = some r:=by
  intro args H K r h
  unfold pkthead_State_read_c pkthead_State_read_ca at h
  split at h
  · exact evF_ok (C:=pkthead_State_read_C R k) (an:=An) (t:=pkthead_State_read_at) (fn:=Try.f31) (c:=(Try.f31.body.getD .skip)) (ifn:=pkthead_State_read_f) (pkthead_State_read_S R k) (pkthead_State_read_J R k) Try.func31 (by kernel_rfl) (by kernel_rfl) (And.intro True.intro (And.intro True.intro (And.intro True.intro (And.intro (And.intro True.intro (And.intro (And.intro True.intro True.intro) True.intro)) (And.intro True.intro (And.intro (And.intro True.intro (pkthead_State_read_j0 k)) (And.intro (pkthead_State_read_j2 k) (And.intro True.intro (And.intro (And.intro True.intro (And.intro (And.intro True.intro True.intro) True.intro)) (And.intro True.intro (And.intro True.intro (And.intro True.intro True.intro)))))))))))) rfl (Eq.trans (pkthead_State_read_e (bitio_Reader_Get k) (pkthead_State_contributes k) (pkthead_State_lengths k) (bitio_Reader_Align k) (pkthead_State_read_l0 k) (pkthead_State_read_p1 k) (pkthead_State_read_p2 k) k _ _ H K) h)
  · cases h
abbrev pkthead_State_Decode_p0_t (R:Type):Type:=Oa → Oa → Nat → Nat → Heap → (Oa → Oa → Nat → Nat → Option R) → (Oa → Nat → Nat → Int → Int → Option R) → Option R
def pkthead_State_Decode_p0_b {R:Type} (k:Nat) (p624:Oa) (q625:Oa) (l626:Nat) (c627:Nat) (H:Heap) (KN:Oa → Oa → Nat → Nat → Option R) (KR:Oa → Nat → Nat → Int → Int → Option R):Option R :=
bif p624.isNone then (KR none 0 0 0 6)
 else (hnil p624 fun p628 =>
hfad 0 p628 fun p629 =>
ldB H p629 fun t630 =>
bif (!t630) then (KR none 0 0 0 6)
 else (hnil p624 fun p631 =>
hfad 1 p631 fun p632 =>
ldB H p632 fun t633 =>
bif t633 then (KR none 0 0 0 6)
 else (hnil p624 fun p634 =>
hfad 10 p634 fun p635 =>
ldI .i64 H p635 fun n636 =>
bif decide (n636 ≥ 16) then (KR none 0 0 0 6)
 else (KN p624 q625 l626 c627))))
def pkthead_State_Decode_p0 {R:Type} (k:Nat) (p624:Oa) (q625:Oa) (l626:Nat) (c627:Nat) (H:Heap) (KN:Oa → Oa → Nat → Nat → Option R) (KR:Oa → Nat → Nat → Int → Int → Option R):Option R:=pkthead_State_Decode_p0_b k p624 q625 l626 c627 H KN KR
abbrev pkthead_State_Decode_t (R:Type):Type:=Oa → Oa → Nat → Nat → Heap → (Oa → Nat → Nat → Int → Int → Heap → Option R) → Option R
def pkthead_State_Decode_b {R:Type} (pkthead_State_Decode_p0:pkthead_State_Decode_p0_t R) (pkthead_State_Clone:pkthead_State_Clone_t R) (bitio_NewReader:bitio_NewReader_t R) (pkthead_State_read:pkthead_State_read_t R) (k:Nat) (p620:Oa) (q621:Oa) (l622:Nat) (c623:Nat) (H:Heap) (K:Oa → Nat → Nat → Int → Int → Heap → Option R):Option R :=
pkthead_State_Decode_p0 p620 q621 l622 c623 H (fun p646 q647 l648 c649 =>
pkthead_State_Clone p646 H fun p650 H651 =>
bitio_NewReader q647 l648 c649 H651 fun p652 H653 =>
pkthead_State_read p650 p652 H653 fun q654 l655 c656 n657 n658 H659 =>
bif (n658 != 0) then (K none 0 0 0 n658 H659)
 else (hnil p650 fun p660 =>
ldB H659 (pad p660 0) fun t661 =>
ldB H659 (pad p660 1) fun t662 =>
ldB H659 (pad p660 2) fun t663 =>
ldB H659 (pad p660 3) fun t664 =>
ldB H659 (pad p660 4) fun t665 =>
ldB H659 (pad p660 5) fun t666 =>
ldB H659 (pad p660 6) fun t667 =>
ldB H659 (pad p660 7) fun t668 =>
ldL H659 (pad p660 8) fun q669 l670 c671 =>
ldL H659 (pad p660 9) fun q672 l673 c674 =>
ldI .i64 H659 (pad p660 10) fun n675 =>
hnil p646 fun p676 =>
hst H659 p676 [.bool t661,.bool t662,.bool t663,.bool t664,.bool t665,.bool t666,.bool t667,.bool t668,.slice q669 l670 c671,.slice q672 l673 c674,.int .i64 n675] fun H677 =>
K q654 l655 c656 n657 0 H677)) (fun q678 l679 c680 n681 n682 =>
K q678 l679 c680 n681 n682 H)
def pkthead_State_Decode {R:Type} (k:Nat) (p620:Oa) (q621:Oa) (l622:Nat) (c623:Nat) (H:Heap) (K:Oa → Nat → Nat → Int → Int → Heap → Option R):Option R:=pkthead_State_Decode_b (pkthead_State_Decode_p0 k) (pkthead_State_Clone k) bitio_NewReader (pkthead_State_read k) k p620 q621 l622 c623 H K
def pkthead_State_Decode_Ct {R:Type} (pkthead_State_Clone:pkthead_State_Clone_t R) (bitio_NewReader:bitio_NewReader_t R) (pkthead_State_read:pkthead_State_read_t R):Tab R:=tcons 27 (pkthead_State_Clone_ca pkthead_State_Clone) <| tcons 32 (bitio_NewReader_ca bitio_NewReader) <| tcons 31 (pkthead_State_read_ca pkthead_State_read) <| fun _ _ _ _ => none
def pkthead_State_Decode_C (R:Type) (k:Nat):Tab R:=pkthead_State_Decode_Ct (pkthead_State_Clone k) bitio_NewReader (pkthead_State_read k)
theorem pkthead_State_Decode_S (R:Type) (k:Nat):CSound Try.prog (pkthead_State_Decode_C R k):=csound_cons (pkthead_State_Clone_cs R k) <| csound_cons (bitio_NewReader_cs R k) <| csound_cons (pkthead_State_read_cs R k) <| csound_nil
def pkthead_State_Decode_aa0 {R:Type} (f:pkthead_State_Decode_p0_t R) (n:Nat) (vals:List Value) (H:Heap) (K:Xit → Env → Heap → Option R):Option R :=
  match vals with
  | [.pointer p624,.slice q625 l626 c627] => f p624 q625 l626 c627 H (fun p1742 q1743 l1744 c1745 => K .normal [(0,.pointer p1742),(1,.slice q1743 l1744 c1745)] H) (fun q1746 l1747 c1748 n1749 n1750 => K .ret [(4,.slice q1746 l1747 c1748),(5,.int .i64 n1749),(6,.int .i64 n1750)] H)
  | _ => none
def pkthead_State_Decode_a0 (R:Type) (k n:Nat) (vals:List Value) (H:Heap) (K:Xit → Env → Heap → Option R):Option R:=pkthead_State_Decode_aa0 (pkthead_State_Decode_p0 k) n vals H K
def pkthead_State_Decode_Jt {R:Type} (k:Nat) (pkthead_State_Decode_p0:pkthead_State_Decode_p0_t R):JTab R:=tcons 0 (pkthead_State_Decode_aa0 pkthead_State_Decode_p0 k) <| fun _ _ _ _ => none
def pkthead_State_Decode_J (R:Type) (k:Nat):JTab R:=pkthead_State_Decode_Jt k (pkthead_State_Decode_p0 k)
def pkthead_State_Decode_at:AT:=(.seq (.reg [0,1] []) (.seq (.opq 0 [0,1] ⟨[0,1],[],[4,5,6]⟩ (.seq (.reg [0,1,29] []) (.cond (.seq (.reg [4,5,6] []) .leaf) .leaf))) (.seq (.reg [0,1,7] []) (.seq (.reg [0,4,5,6,7] []) (.seq (.seq (.reg [0,4,5,6,7,41] []) (.cond (.seq (.reg [4,5,6] []) .leaf) .leaf)) (.seq (.reg [4,5] []) (.seq (.reg [4,5,6] []) .leaf)))))))
def pkthead_State_Decode_i0:IC:=(.seq (.reg [⟨some 8,.mov (.t 0),none⟩,
⟨some 9,.eqnil (.t 8) false 0,none⟩,
⟨some 10,.mov (.t 9),none⟩,
⟨some 11,.mov (.t 0),some (10,false)⟩,
⟨some 12,.nilc (.t 11),some (10,false)⟩,
⟨some 13,.fad 0 (.t 12),some (10,false)⟩,
⟨some 14,.ld (.sc .bool) (.t 13),some (10,false)⟩,
⟨some 15,.lnot (.t 14),some (10,false)⟩,
⟨some 16,.pick (.t 10) (.c (Go.Value.bool true)) (.t 15),none⟩,
⟨some 17,.mov (.t 16),none⟩,
⟨some 18,.mov (.t 0),some (17,false)⟩,
⟨some 19,.nilc (.t 18),some (17,false)⟩,
⟨some 20,.fad 1 (.t 19),some (17,false)⟩,
⟨some 21,.ld (.sc .bool) (.t 20),some (17,false)⟩,
⟨some 22,.pick (.t 17) (.c (Go.Value.bool true)) (.t 21),none⟩,
⟨some 23,.mov (.t 22),none⟩,
⟨some 24,.mov (.t 0),some (23,false)⟩,
⟨some 25,.nilc (.t 24),some (23,false)⟩,
⟨some 26,.fad 10 (.t 25),some (23,false)⟩,
⟨some 27,.ld (.sc (.int .i64)) (.t 26),some (23,false)⟩,
⟨some 28,.cmp .geq (.t 27) (.c (Go.Value.int Go.IntKind.i64 16)),some (23,false)⟩,
⟨some 29,.pick (.t 23) (.c (Go.Value.bool true)) (.t 28),none⟩] [0,1,29]) (.cond (.t 29) (.seq (.reg [⟨some 4,.mov (.c (Go.Value.slice none 0 0)),none⟩,
⟨some 5,.mov (.c (Go.Value.int Go.IntKind.i64 0)),none⟩,
⟨some 6,.mov (.c (Go.Value.int Go.IntKind.i64 6)),none⟩] [4,5,6]) .ret) .skip))
def pkthead_State_Decode_f:IFn:=⟨50,[.t 4,.t 5,.t 6],(.seq (.reg [⟨some 4,.mov (.c (Go.Value.slice none 0 0)),none⟩,
⟨some 5,.mov (.c (Go.Value.int Go.IntKind.i64 0)),none⟩,
⟨some 6,.mov (.c (Go.Value.int Go.IntKind.i64 0)),none⟩] [0,1]) (.seq (.opq 0 [0,1] pkthead_State_Decode_i0) (.seq (.reg [⟨some 30,.mov (.t 0),none⟩,
⟨some 31,.call 27 [(.t 30)] (.one (.sc .ptr)),none⟩,
⟨some 7,.mov (.t 31),none⟩] [0,1,7]) (.seq (.reg [⟨some 33,.mov (.t 7),none⟩,
⟨some 34,.mov (.t 1),none⟩,
⟨some 35,.call 32 [(.t 34)] (.one (.sc .ptr)),none⟩,
⟨some 36,.call 31 [(.t 33),(.t 35)] (.tup [(.sc .slc),(.sc (.int .i64)),(.sc (.int .i64))]),none⟩,
⟨some 32,.mov (.t 36),none⟩,
⟨some 37,.ext 0 (.t 32),none⟩,
⟨some 38,.ext 1 (.t 32),none⟩,
⟨some 39,.ext 2 (.t 32),none⟩,
⟨some 4,.mov (.t 37),none⟩,
⟨some 5,.mov (.t 38),none⟩,
⟨some 6,.mov (.t 39),none⟩] [0,4,5,6,7]) (.seq (.seq (.reg [⟨some 40,.mov (.t 6),none⟩,
⟨some 41,.cmp .neq (.t 40) (.c (Go.Value.int Go.IntKind.i64 0)),none⟩] [0,4,5,6,7,41]) (.cond (.t 41) (.seq (.reg [⟨some 42,.mov (.t 6),none⟩,
⟨some 4,.mov (.c (Go.Value.slice none 0 0)),none⟩,
⟨some 5,.mov (.c (Go.Value.int Go.IntKind.i64 0)),none⟩,
⟨some 6,.mov (.t 42),none⟩] [4,5,6]) .ret) .skip)) (.seq (.reg [⟨some 43,.mov (.t 0),none⟩,
⟨some 44,.mov (.t 7),none⟩,
⟨some 45,.nilc (.t 44),none⟩,
⟨some 46,.ld (.agg [.bool,.bool,.bool,.bool,.bool,.bool,.bool,.bool,.slc,.slc,(.int .i64)]) (.t 45),none⟩,
⟨some 47,.nilc (.t 43),none⟩,
⟨none,.st 11 (.t 47) (.t 46),none⟩] [4,5]) (.seq (.reg [⟨some 48,.mov (.t 4),none⟩,
⟨some 49,.mov (.t 5),none⟩,
⟨some 4,.mov (.t 48),none⟩,
⟨some 5,.mov (.t 49),none⟩,
⟨some 6,.mov (.c (Go.Value.int Go.IntKind.i64 0)),none⟩] [4,5,6]) .ret)))))))⟩
theorem pkthead_State_Decode_e0 {R:Type} (pkthead_State_Clone:pkthead_State_Clone_t R) (bitio_NewReader:bitio_NewReader_t R) (pkthead_State_read:pkthead_State_read_t R) (pkthead_State_Decode_p0:pkthead_State_Decode_p0_t R) (k:Nat) (p624:Oa) (q625:Oa) (l626:Nat) (c627:Nat) (H:Heap) (K:Xit → Env → Heap → Option R):evJ (pkthead_State_Decode_Ct pkthead_State_Clone bitio_NewReader pkthead_State_read) (pkthead_State_Decode_Jt k pkthead_State_Decode_p0) pkthead_State_Decode_i0 (List.zip [0,1] [.pointer p624,.slice q625 l626 c627]) H (fun x e' H' => K x (clean e' ((⟨[0,1],[],[4,5,6]⟩:Out).of x)) H') = pkthead_State_Decode_p0_b k p624 q625 l626 c627 H (fun p1742 q1743 l1744 c1745 => K .normal [(0,.pointer p1742),(1,.slice q1743 l1744 c1745)] H) (fun q1746 l1747 c1748 n1749 n1750 => K .ret [(4,.slice q1746 l1747 c1748),(5,.int .i64 n1749),(6,.int .i64 n1750)] H):=by kernel_rfl
theorem pkthead_State_Decode_j0 {R:Type} (k:Nat):JS Try.prog 50 (pkthead_State_Decode_a0 R k k) [0,1] ⟨[0,1],[],[4,5,6]⟩ (sel [1,0] (Try.f16.body.getD .skip)) :=
  piece_ok (nt:=50) (c:=(sel [1,0] (Try.f16.body.getD .skip))) (C:=pkthead_State_Decode_C R k) (an:=An) (t:=(.seq (.reg [0,1,29] []) (.cond (.seq (.reg [4,5,6] []) .leaf) .leaf))) (ic:=pkthead_State_Decode_i0) (pkthead_State_Decode_S R k) (pkthead_State_Decode_J R k) (by kernel_rfl) (And.intro True.intro (And.intro (And.intro True.intro True.intro) True.intro)) (pkthead_State_Decode_a0 R k k)
    (fun vals H K r h => by
      unfold pkthead_State_Decode_a0 pkthead_State_Decode_aa0 at h
      split at h <;> first | (cases h; done) | exact Eq.trans (pkthead_State_Decode_e0 (pkthead_State_Clone k) bitio_NewReader (pkthead_State_read k) (pkthead_State_Decode_p0 k) k _ _ _ _ H K) h)
def pkthead_State_Decode_ca {R:Type} (f:pkthead_State_Decode_t R) (args:List Value) (H:Heap) (K:Value → Heap → Option R):Option R :=
  match args with
  | [.pointer p620,.slice q621 l622 c623] => f p620 q621 l622 c623 H (fun q1751 l1752 c1753 n1754 n1755 H => K (.tuple ⟨[.slice q1751 l1752 c1753,.int .i64 n1754,.int .i64 n1755]⟩) H)
  | _ => none
def pkthead_State_Decode_c (R:Type) (k:Nat) (args:List Value) (H:Heap) (K:Value → Heap → Option R):Option R:=pkthead_State_Decode_ca (pkthead_State_Decode k) args H K
theorem pkthead_State_Decode_e {R:Type} (pkthead_State_Clone:pkthead_State_Clone_t R) (bitio_NewReader:bitio_NewReader_t R) (pkthead_State_read:pkthead_State_read_t R) (pkthead_State_Decode_p0:pkthead_State_Decode_p0_t R) (k:Nat) (p620:Oa) (q621:Oa) (l622:Nat) (c623:Nat) (H:Heap) (K:Value → Heap → Option R):evF (pkthead_State_Decode_Ct pkthead_State_Clone bitio_NewReader pkthead_State_read) (pkthead_State_Decode_Jt k pkthead_State_Decode_p0) pkthead_State_Decode_f [.pointer p620,.slice q621 l622 c623] H K = pkthead_State_Decode_b pkthead_State_Decode_p0 pkthead_State_Clone bitio_NewReader pkthead_State_read k p620 q621 l622 c623 H (fun q1751 l1752 c1753 n1754 n1755 H => K (.tuple ⟨[.slice q1751 l1752 c1753,.int .i64 n1754,.int .i64 n1755]⟩) H):=by kernel_rfl
theorem pkthead_State_Decode_cs (R:Type) (k:Nat):∀ args H K r,pkthead_State_Decode_c R k args H K = some r → ∃ v H',Tri Try.prog 16 args H v H' ∧ K v H' = some r:=by
  intro args H K r h
  unfold pkthead_State_Decode_c pkthead_State_Decode_ca at h
  split at h
  · exact evF_ok (C:=pkthead_State_Decode_C R k) (an:=An) (t:=pkthead_State_Decode_at) (fn:=Try.f16) (c:=(Try.f16.body.getD .skip)) (ifn:=pkthead_State_Decode_f) (pkthead_State_Decode_S R k) (pkthead_State_Decode_J R k) Try.func16 (by kernel_rfl) (by kernel_rfl) (And.intro True.intro (And.intro (pkthead_State_Decode_j0 k) (And.intro True.intro (And.intro True.intro (And.intro (And.intro True.intro (And.intro (And.intro True.intro True.intro) True.intro)) (And.intro True.intro (And.intro True.intro True.intro))))))) rfl (Eq.trans (pkthead_State_Decode_e (pkthead_State_Clone k) bitio_NewReader (pkthead_State_read k) (pkthead_State_Decode_p0 k) k _ _ _ _ H K) h)
  · cases h
abbrev R26_Same_p1_t (R:Type):Type:=Oa → Nat → Nat → Oa → Nat → Nat → Int → Heap → (Oa → Nat → Nat → Oa → Nat → Nat → Int → Option R) → (Bool → Option R) → Option R
def R26_Same_p1_b {R:Type} (k:Nat) (q726:Oa) (l727:Nat) (c728:Nat) (q729:Oa) (l730:Nat) (c731:Nat) (n732:Int) (H:Heap) (KN:Oa → Nat → Nat → Oa → Nat → Nat → Int → Option R) (KR:Bool → Option R):Option R :=
hidx q726 l727 n732 3 fun p733 =>
hfad 0 p733 fun p734 =>
ldI .i64 H p734 fun n735 =>
hidx q729 l730 n732 3 fun p736 =>
hfad 0 p736 fun p737 =>
ldI .i64 H p737 fun n738 =>
bif (n735 != n738) then (KR false)
 else (hidx q726 l727 n732 3 fun p739 =>
hfad 1 p739 fun p740 =>
ldI .i64 H p740 fun n741 =>
hidx q729 l730 n732 3 fun p742 =>
hfad 1 p742 fun p743 =>
ldI .i64 H p743 fun n744 =>
bif (n741 != n744) then (KR false)
 else (hidx q726 l727 n732 3 fun p745 =>
hfad 2 p745 fun p746 =>
ldL H p746 fun q747 l748 c749 =>
hidx q729 l730 n732 3 fun p750 =>
hfad 2 p750 fun p751 =>
ldL H p751 fun q752 l753 c754 =>
bif (((l748:Nat):Int) != ((l753:Nat):Int)) then (KR false)
 else (KN q726 l727 c728 q729 l730 c731 n732)))
def R26_Same_p1 {R:Type} (k:Nat) (q726:Oa) (l727:Nat) (c728:Nat) (q729:Oa) (l730:Nat) (c731:Nat) (n732:Int) (H:Heap) (KN:Oa → Nat → Nat → Oa → Nat → Nat → Int → Option R) (KR:Bool → Option R):Option R:=R26_Same_p1_b k q726 l727 c728 q729 l730 c731 n732 H KN KR
abbrev R26_Same_l2_t (R:Type):Type:=(Oa → Nat → Nat → Oa → Nat → Nat → Int → Option R) → (Bool → Option R) → Nat → Oa → Nat → Nat → Oa → Nat → Nat → Int → Int → Heap → Option R
def R26_Same_l2_b {R:Type} (rec:Oa → Nat → Nat → Oa → Nat → Nat → Int → Int → Heap → Option R) (KE2:Oa → Nat → Nat → Oa → Nat → Nat → Int → Option R) (KR:Bool → Option R) (k:Nat) (q770:Oa) (l771:Nat) (c772:Nat) (q773:Oa) (l774:Nat) (c775:Nat) (n776:Int) (n777:Int) (H:Heap):Option R :=
hidx q770 l771 n776 3 fun p778 =>
hfad 2 p778 fun p779 =>
ldL H p779 fun q780 l781 c782 =>
bif decide (n777 < ((l781:Nat):Int)) then (hidx q770 l771 n776 3 fun p783 =>
hfad 2 p783 fun p784 =>
ldL H p784 fun q785 l786 c787 =>
hidx q785 l786 n777 1 fun p788 =>
ldI .i64 H p788 fun n789 =>
hidx q773 l774 n776 3 fun p790 =>
hfad 2 p790 fun p791 =>
ldL H p791 fun q792 l793 c794 =>
hidx q792 l793 n777 1 fun p795 =>
ldI .i64 H p795 fun n796 =>
bif (n789 != n796) then (KR false)
 else (rec q770 l771 c772 q773 l774 c775 n776 (IntKind.wrap .i64 (n777 + 1)) H))
 else (KE2 q770 l771 c772 q773 l774 c775 n776)
def R26_Same_l2 {R:Type} (k:Nat) (KE2:Oa → Nat → Nat → Oa → Nat → Nat → Int → Option R) (KR:Bool → Option R):Nat → Oa → Nat → Nat → Oa → Nat → Nat → Int → Int → Heap → Option R
  | 0,_,_,_,_,_,_,_,_,_ => none
  | n + 1,q770,l771,c772,q773,l774,c775,n776,n777,H => R26_Same_l2_b (R26_Same_l2 k KE2 KR n) KE2 KR k q770 l771 c772 q773 l774 c775 n776 n777 H
abbrev R26_Same_l0_t (R:Type):Type:=(Unit → Option R) → (Bool → Option R) → Nat → Oa → Nat → Nat → Oa → Nat → Nat → Int → Heap → Option R
def R26_Same_l0_b {R:Type} (R26_Same_p1:R26_Same_p1_t R) (R26_Same_l2:R26_Same_l2_t R) (rec:Oa → Nat → Nat → Oa → Nat → Nat → Int → Heap → Option R) (KE0:Unit → Option R) (KR:Bool → Option R) (k:Nat) (q719:Oa) (l720:Nat) (c721:Nat) (q722:Oa) (l723:Nat) (c724:Nat) (n725:Int) (H:Heap):Option R :=
bif decide (n725 < ((l720:Nat):Int)) then (R26_Same_p1 q719 l720 c721 q722 l723 c724 n725 H (fun q763 l764 c765 q766 l767 c768 n769 =>
R26_Same_l2 (fun q805 l806 c807 q808 l809 c810 n811 =>
rec q805 l806 c807 q808 l809 c810 (IntKind.wrap .i64 (n811 + 1)) H) (fun t812 =>
KR t812) k q763 l764 c765 q766 l767 c768 n769 0 H) (fun t813 =>
KR t813))
 else (KE0 ())
def R26_Same_l0 {R:Type} (k:Nat) (KE0:Unit → Option R) (KR:Bool → Option R):Nat → Oa → Nat → Nat → Oa → Nat → Nat → Int → Heap → Option R
  | 0,_,_,_,_,_,_,_,_ => none
  | n + 1,q719,l720,c721,q722,l723,c724,n725,H => R26_Same_l0_b (R26_Same_p1 k) (R26_Same_l2 k) (R26_Same_l0 k KE0 KR n) KE0 KR k q719 l720 c721 q722 l723 c724 n725 H
abbrev R26_Same_t (R:Type):Type:=Oa → Nat → Nat → Oa → Nat → Nat → Heap → (Bool → Option R) → Option R
def R26_Same_b {R:Type} (R26_Same_l0:R26_Same_l0_t R) (k:Nat) (q713:Oa) (l714:Nat) (c715:Nat) (q716:Oa) (l717:Nat) (c718:Nat) (H:Heap) (K:Bool → Option R):Option R :=
bif (((l714:Nat):Int) != ((l717:Nat):Int)) then (K false)
 else (R26_Same_l0 (fun (_:Unit) =>
K true) (fun t815 =>
K t815) k q713 l714 c715 q716 l717 c718 0 H)
def R26_Same {R:Type} (k:Nat) (q713:Oa) (l714:Nat) (c715:Nat) (q716:Oa) (l717:Nat) (c718:Nat) (H:Heap) (K:Bool → Option R):Option R:=R26_Same_b (R26_Same_l0 k) k q713 l714 c715 q716 l717 c718 H K
def R26_Same_Ct {R:Type}:Tab R:=fun _ _ _ _ => none
def R26_Same_C (R:Type) (k:Nat):Tab R:=R26_Same_Ct
theorem R26_Same_S (R:Type) (k:Nat):CSound Try.prog (R26_Same_C R k):=csound_nil
def R26_Same_aa0 {R:Type} (f:R26_Same_l0_t R) (n:Nat) (vals:List Value) (H:Heap) (K:Xit → Env → Heap → Option R):Option R :=
  match vals with
  | [.slice q719 l720 c721,.slice q722 l723 c724,.int .i64 n725] => f (fun _ => K (.exit 0) [] H) (fun t1756 => K .ret [(4,.bool t1756)] H) n q719 l720 c721 q722 l723 c724 n725 H
  | _ => none
def R26_Same_a0 (R:Type) (k n:Nat) (vals:List Value) (H:Heap) (K:Xit → Env → Heap → Option R):Option R:=R26_Same_aa0 (R26_Same_l0 k) n vals H K
def R26_Same_aa1 {R:Type} (f:R26_Same_p1_t R) (n:Nat) (vals:List Value) (H:Heap) (K:Xit → Env → Heap → Option R):Option R :=
  match vals with
  | [.slice q726 l727 c728,.slice q729 l730 c731,.int .i64 n732] => f q726 l727 c728 q729 l730 c731 n732 H (fun q1757 l1758 c1759 q1760 l1761 c1762 n1763 => K .normal [(0,.slice q1757 l1758 c1759),(1,.slice q1760 l1761 c1762),(5,.int .i64 n1763)] H) (fun t1764 => K .ret [(4,.bool t1764)] H)
  | _ => none
def R26_Same_a1 (R:Type) (k n:Nat) (vals:List Value) (H:Heap) (K:Xit → Env → Heap → Option R):Option R:=R26_Same_aa1 (R26_Same_p1 k) n vals H K
def R26_Same_aa2 {R:Type} (f:R26_Same_l2_t R) (n:Nat) (vals:List Value) (H:Heap) (K:Xit → Env → Heap → Option R):Option R :=
  match vals with
  | [.slice q770 l771 c772,.slice q773 l774 c775,.int .i64 n776,.int .i64 n777] => f (fun q1765 l1766 c1767 q1768 l1769 c1770 n1771 => K (.exit 2) [(0,.slice q1765 l1766 c1767),(1,.slice q1768 l1769 c1770),(5,.int .i64 n1771)] H) (fun t1772 => K .ret [(4,.bool t1772)] H) n q770 l771 c772 q773 l774 c775 n776 n777 H
  | _ => none
def R26_Same_a2 (R:Type) (k n:Nat) (vals:List Value) (H:Heap) (K:Xit → Env → Heap → Option R):Option R:=R26_Same_aa2 (R26_Same_l2 k) n vals H K
def R26_Same_Jt {R:Type} (k:Nat) (R26_Same_l0:R26_Same_l0_t R) (R26_Same_p1:R26_Same_p1_t R) (R26_Same_l2:R26_Same_l2_t R):JTab R:=tcons 0 (R26_Same_aa0 R26_Same_l0 k) <| tcons 1 (R26_Same_aa1 R26_Same_p1 k) <| tcons 2 (R26_Same_aa2 R26_Same_l2 k) <| fun _ _ _ _ => none
def R26_Same_J (R:Type) (k:Nat):JTab R:=R26_Same_Jt k (R26_Same_l0 k) (R26_Same_p1 k) (R26_Same_l2 k)
def R26_Same_at:AT:=(.seq (.reg [0,1] []) (.seq (.seq (.reg [0,1,11] []) (.cond (.seq (.reg [4] []) .leaf) .leaf)) (.seq (.seq (.reg [0,1,5] []) (.node (.opq 0 [0,1,5] ⟨[],[(0,[])],[4]⟩ (.node (.seq (.seq (.reg [0,1,5,15] []) (.cond .leaf .leaf)) (.seq (.node (.seq (.opq 1 [0,1,5] ⟨[0,1,5],[],[4]⟩ (.seq (.reg [0,1,5,56] [[],[],[0,1],[0,1,2],[0,1,2,3],[],[],[5,6],[5,6,7],[5,6,7,8],[0,1,2,3,4,5,6,7,8,9],[0,1,2,3,4,5,6,7,8,9,10],[0,1,2,3,4,5,6,7,8,9,10,11],[0,1,2,3,4,5,6,7,8,9,10,11],[0,1,2,3,4,5,6,7,8,9,10,11,12,13],[0,1,2,3,4,5,6,7,8,9,10,11,12,13,14],[0,1,2,3,4,5,6,7,8,9,10,11,12,13,14,15],[0,1,2,3,4,5,6,7,8,9,10,11],[0,1,2,3,4,5,6,7,8,9,10,11],[0,1,2,3,4,5,6,7,8,9,10,11,17,18],[0,1,2,3,4,5,6,7,8,9,10,11,17,18,19],[0,1,2,3,4,5,6,7,8,9,10,11,17,18,19,20],[0,1,2,3,4,5,6,7,8,9,10,11,12,13,14,15,16,17,18,19,20,21],[0,1,2,3,4,5,6,7,8,9,10,11,12,13,14,15,16,17,18,19,20,21,22],[0,1,2,3,4,5,6,7,8,9,10,11,12,13,14,15,16,17,18,19,20,21,22,23],[0,1,2,3,4,5,6,7,8,9,10,11,12,13,14,15,16,17,18,19,20,21,22,23,24],[0,1,2,3,4,5,6,7,8,9,10,11,12,13,14,15,16,17,18,19,20,21,22,23,24],[0,1,2,3,4,5,6,7,8,9,10,11,12,13,14,15,16,17,18,19,20,21,22,23,24,25,26],[0,1,2,3,4,5,6,7,8,9,10,11,12,13,14,15,16,17,18,19,20,21,22,23,24,25,26,27],[0,1,2,3,4,5,6,7,8,9,10,11,12,13,14,15,16,17,18,19,20,21,22,23,24,25,26,27,28],[0,1,2,3,4,5,6,7,8,9,10,11,12,13,14,15,16,17,18,19,20,21,22,23,24,25,26,27,28,29],[0,1,2,3,4,5,6,7,8,9,10,11,12,13,14,15,16,17,18,19,20,21,22,23,24],[0,1,2,3,4,5,6,7,8,9,10,11,12,13,14,15,16,17,18,19,20,21,22,23,24],[0,1,2,3,4,5,6,7,8,9,10,11,12,13,14,15,16,17,18,19,20,21,22,23,24,31,32],[0,1,2,3,4,5,6,7,8,9,10,11,12,13,14,15,16,17,18,19,20,21,22,23,24,31,32,33],[0,1,2,3,4,5,6,7,8,9,10,11,12,13,14,15,16,17,18,19,20,21,22,23,24,31,32,33,34],[0,1,2,3,4,5,6,7,8,9,10,11,12,13,14,15,16,17,18,19,20,21,22,23,24,31,32,33,34,35],[0,1,2,3,4,5,6,7,8,9,10,11,12,13,14,15,16,17,18,19,20,21,22,23,24,25,26,27,28,29,30,31,32,33,34,35,36],[0,1,2,3,4,5,6,7,8,9,10,11,12,13,14,15,16,17,18,19,20,21,22,23,24,25,26,27,28,29,30,31,32,33,34,35,36,37]]) (.cond (.seq (.reg [4] []) .leaf) .leaf))) (.seq (.reg [0,1,5,6] []) (.node (.opq 2 [0,1,5,6] ⟨[],[(2,[0,1,5])],[4]⟩ (.node (.seq (.seq (.reg [0,1,5,6,64] []) (.cond .leaf .leaf)) (.seq (.node (.seq (.reg [0,1,5,6,83] [[],[],[0,1],[0,1,2],[0,1,2,3],[],[0,1,2,3,4,5],[0,1,2,3,4,5,6],[],[],[8,9],[8,9,10],[8,9,10,11],[],[8,9,10,11,12,13],[8,9,10,11,12,13,14],[0,1,2,3,4,5,6,7,8,9,10,11,12,13,14,15]]) (.cond (.seq (.reg [4] []) .leaf) .leaf))) (.reg [0,1,5,6] []))))))))) (.reg [0,1,5] []))))))) (.seq (.reg [4] []) .leaf))))
def R26_Same_i2:IC:=(.seq (.seq (.reg [⟨some 57,.mov (.t 6),none⟩,
⟨some 58,.mov (.t 0),none⟩,
⟨some 59,.mov (.t 5),none⟩,
⟨some 60,.ids 3 (.t 58) (.t 59),none⟩,
⟨some 61,.fad 2 (.t 60),none⟩,
⟨some 62,.ld (.sc .slc) (.t 61),none⟩,
⟨some 63,.len false (.t 62),none⟩,
⟨some 64,.cmp .lss (.t 57) (.t 63),none⟩] [0,1,5,6,64]) (.cond (.t 64) .skip (.exit 2))) (.seq (.block 3 (.seq (.reg [⟨some 67,.mov (.t 0),none⟩,
⟨some 68,.mov (.t 5),none⟩,
⟨some 69,.ids 3 (.t 67) (.t 68),none⟩,
⟨some 70,.fad 2 (.t 69),none⟩,
⟨some 71,.ld (.sc .slc) (.t 70),none⟩,
⟨some 72,.mov (.t 6),none⟩,
⟨some 73,.ids 1 (.t 71) (.t 72),none⟩,
⟨some 74,.ld (.sc (.int .i64)) (.t 73),none⟩,
⟨some 75,.mov (.t 1),none⟩,
⟨some 76,.mov (.t 5),none⟩,
⟨some 77,.ids 3 (.t 75) (.t 76),none⟩,
⟨some 78,.fad 2 (.t 77),none⟩,
⟨some 79,.ld (.sc .slc) (.t 78),none⟩,
⟨some 80,.mov (.t 6),none⟩,
⟨some 81,.ids 1 (.t 79) (.t 80),none⟩,
⟨some 82,.ld (.sc (.int .i64)) (.t 81),none⟩,
⟨some 83,.cmp .neq (.t 74) (.t 82),none⟩] [0,1,5,6,83]) (.cond (.t 83) (.seq (.reg [⟨some 4,.mov (.c (Go.Value.bool false)),none⟩] [4]) .ret) .skip))) (.reg [⟨some 65,.mov (.t 6),none⟩,
⟨some 66,.bin .add .i64 (.t 65) (.c (Go.Value.int Go.IntKind.i64 1)),none⟩,
⟨some 6,.mov (.t 66),none⟩] [0,1,5,6])))
def R26_Same_i1:IC:=(.seq (.reg [⟨some 18,.mov (.t 0),none⟩,
⟨some 19,.mov (.t 5),none⟩,
⟨some 20,.ids 3 (.t 18) (.t 19),none⟩,
⟨some 21,.fad 0 (.t 20),none⟩,
⟨some 22,.ld (.sc (.int .i64)) (.t 21),none⟩,
⟨some 23,.mov (.t 1),none⟩,
⟨some 24,.mov (.t 5),none⟩,
⟨some 25,.ids 3 (.t 23) (.t 24),none⟩,
⟨some 26,.fad 0 (.t 25),none⟩,
⟨some 27,.ld (.sc (.int .i64)) (.t 26),none⟩,
⟨some 28,.cmp .neq (.t 22) (.t 27),none⟩,
⟨some 29,.mov (.t 28),none⟩,
⟨some 30,.mov (.t 0),some (29,false)⟩,
⟨some 31,.mov (.t 5),some (29,false)⟩,
⟨some 32,.ids 3 (.t 30) (.t 31),some (29,false)⟩,
⟨some 33,.fad 1 (.t 32),some (29,false)⟩,
⟨some 34,.ld (.sc (.int .i64)) (.t 33),some (29,false)⟩,
⟨some 35,.mov (.t 1),some (29,false)⟩,
⟨some 36,.mov (.t 5),some (29,false)⟩,
⟨some 37,.ids 3 (.t 35) (.t 36),some (29,false)⟩,
⟨some 38,.fad 1 (.t 37),some (29,false)⟩,
⟨some 39,.ld (.sc (.int .i64)) (.t 38),some (29,false)⟩,
⟨some 40,.cmp .neq (.t 34) (.t 39),some (29,false)⟩,
⟨some 41,.pick (.t 29) (.c (Go.Value.bool true)) (.t 40),none⟩,
⟨some 42,.mov (.t 41),none⟩,
⟨some 43,.mov (.t 0),some (42,false)⟩,
⟨some 44,.mov (.t 5),some (42,false)⟩,
⟨some 45,.ids 3 (.t 43) (.t 44),some (42,false)⟩,
⟨some 46,.fad 2 (.t 45),some (42,false)⟩,
⟨some 47,.ld (.sc .slc) (.t 46),some (42,false)⟩,
⟨some 48,.len false (.t 47),some (42,false)⟩,
⟨some 49,.mov (.t 1),some (42,false)⟩,
⟨some 50,.mov (.t 5),some (42,false)⟩,
⟨some 51,.ids 3 (.t 49) (.t 50),some (42,false)⟩,
⟨some 52,.fad 2 (.t 51),some (42,false)⟩,
⟨some 53,.ld (.sc .slc) (.t 52),some (42,false)⟩,
⟨some 54,.len false (.t 53),some (42,false)⟩,
⟨some 55,.cmp .neq (.t 48) (.t 54),some (42,false)⟩,
⟨some 56,.pick (.t 42) (.c (Go.Value.bool true)) (.t 55),none⟩] [0,1,5,56]) (.cond (.t 56) (.seq (.reg [⟨some 4,.mov (.c (Go.Value.bool false)),none⟩] [4]) .ret) .skip))
def R26_Same_i0:IC:=(.seq (.seq (.reg [⟨some 12,.mov (.t 5),none⟩,
⟨some 13,.mov (.t 0),none⟩,
⟨some 14,.len false (.t 13),none⟩,
⟨some 15,.cmp .lss (.t 12) (.t 14),none⟩] [0,1,5,15]) (.cond (.t 15) .skip (.exit 0))) (.seq (.block 1 (.seq (.opq 1 [0,1,5] R26_Same_i1) (.seq (.reg [⟨some 6,.mov (.c (Go.Value.int Go.IntKind.i64 0)),none⟩] [0,1,5,6]) (.block 2 (.opq 2 [0,1,5,6] (.loop R26_Same_i2)))))) (.reg [⟨some 16,.mov (.t 5),none⟩,
⟨some 17,.bin .add .i64 (.t 16) (.c (Go.Value.int Go.IntKind.i64 1)),none⟩,
⟨some 5,.mov (.t 17),none⟩] [0,1,5])))
def R26_Same_f:IFn:=⟨84,[.t 4],(.seq (.reg [⟨some 4,.mov (.c (Go.Value.bool false)),none⟩] [0,1]) (.seq (.seq (.reg [⟨some 7,.mov (.t 0),none⟩,
⟨some 8,.len false (.t 7),none⟩,
⟨some 9,.mov (.t 1),none⟩,
⟨some 10,.len false (.t 9),none⟩,
⟨some 11,.cmp .neq (.t 8) (.t 10),none⟩] [0,1,11]) (.cond (.t 11) (.seq (.reg [⟨some 4,.mov (.c (Go.Value.bool false)),none⟩] [4]) .ret) .skip)) (.seq (.seq (.reg [⟨some 5,.mov (.c (Go.Value.int Go.IntKind.i64 0)),none⟩] [0,1,5]) (.block 0 (.opq 0 [0,1,5] (.loop R26_Same_i0)))) (.seq (.reg [⟨some 4,.mov (.c (Go.Value.bool true)),none⟩] [4]) .ret))))⟩
theorem R26_Same_e2 {R:Type} (R26_Same_l0:R26_Same_l0_t R) (R26_Same_p1:R26_Same_p1_t R) (R26_Same_l2:R26_Same_l2_t R) (k n:Nat) (q770:Oa) (l771:Nat) (c772:Nat) (q773:Oa) (l774:Nat) (c775:Nat) (n776:Int) (n777:Int) (H:Heap) (K:Xit → Env → Heap → Option R):evJ (R26_Same_Ct) (R26_Same_Jt k R26_Same_l0 R26_Same_p1 R26_Same_l2) R26_Same_i2 (List.zip [0,1,5,6] [.slice q770 l771 c772,.slice q773 l774 c775,.int .i64 n776,.int .i64 n777]) H (fun x e' H' => match x with | .normal => R26_Same_aa2 R26_Same_l2 n ((clean e' [0,1,5,6]).map (·.2)) H' K | x => K x (clean e' ((⟨[],[(2,[0,1,5])],[4]⟩:Out).of x)) H') = R26_Same_l2_b (R26_Same_l2 (fun q1765 l1766 c1767 q1768 l1769 c1770 n1771 => K (.exit 2) [(0,.slice q1765 l1766 c1767),(1,.slice q1768 l1769 c1770),(5,.int .i64 n1771)] H) (fun t1772 => K .ret [(4,.bool t1772)] H) n) (fun q1765 l1766 c1767 q1768 l1769 c1770 n1771 => K (.exit 2) [(0,.slice q1765 l1766 c1767),(1,.slice q1768 l1769 c1770),(5,.int .i64 n1771)] H) (fun t1772 => K .ret [(4,.bool t1772)] H) k q770 l771 c772 q773 l774 c775 n776 n777 H:=by kernel_rfl
theorem R26_Same_j2 {R:Type} (k:Nat):JS Try.prog 84 (R26_Same_a2 R k k) [0,1,5,6] ⟨[],[(2,[0,1,5])],[4]⟩ (.loop (sel [1,1,0,1,0,0,1,0,0,1,1,0,0] (Try.f18.body.getD .skip))) :=
  loop_ok (nt:=84) (c:=(sel [1,1,0,1,0,0,1,0,0,1,1,0,0] (Try.f18.body.getD .skip))) (C:=R26_Same_C R k) (an:=An) (t:=(.seq (.seq (.reg [0,1,5,6,64] []) (.cond .leaf .leaf)) (.seq (.node (.seq (.reg [0,1,5,6,83] [[],[],[0,1],[0,1,2],[0,1,2,3],[],[0,1,2,3,4,5],[0,1,2,3,4,5,6],[],[],[8,9],[8,9,10],[8,9,10,11],[],[8,9,10,11,12,13],[8,9,10,11,12,13,14],[0,1,2,3,4,5,6,7,8,9,10,11,12,13,14,15]]) (.cond (.seq (.reg [4] []) .leaf) .leaf))) (.reg [0,1,5,6] [])))) (ic:=R26_Same_i2) (R26_Same_S R k) (R26_Same_J R k) (by kernel_rfl) (And.intro (And.intro True.intro (And.intro True.intro True.intro)) (And.intro (And.intro True.intro (And.intro (And.intro True.intro True.intro) True.intro)) True.intro)) (R26_Same_a2 R k) (fun vals H K => by unfold R26_Same_a2 R26_Same_aa2; split <;> rfl)
    (fun n vals H K r h => by
      unfold R26_Same_a2 R26_Same_aa2 at h
      split at h <;> first | (cases h; done) | exact Eq.trans (R26_Same_e2 (R26_Same_l0 k) (R26_Same_p1 k) (R26_Same_l2 k) k n _ _ _ _ _ _ _ _ H K) h) k
theorem R26_Same_e1 {R:Type} (R26_Same_l0:R26_Same_l0_t R) (R26_Same_p1:R26_Same_p1_t R) (R26_Same_l2:R26_Same_l2_t R) (k:Nat) (q726:Oa) (l727:Nat) (c728:Nat) (q729:Oa) (l730:Nat) (c731:Nat) (n732:Int) (H:Heap) (K:Xit → Env → Heap → Option R):evJ (R26_Same_Ct) (R26_Same_Jt k R26_Same_l0 R26_Same_p1 R26_Same_l2) R26_Same_i1 (List.zip [0,1,5] [.slice q726 l727 c728,.slice q729 l730 c731,.int .i64 n732]) H (fun x e' H' => K x (clean e' ((⟨[0,1,5],[],[4]⟩:Out).of x)) H') = R26_Same_p1_b k q726 l727 c728 q729 l730 c731 n732 H (fun q1757 l1758 c1759 q1760 l1761 c1762 n1763 => K .normal [(0,.slice q1757 l1758 c1759),(1,.slice q1760 l1761 c1762),(5,.int .i64 n1763)] H) (fun t1764 => K .ret [(4,.bool t1764)] H):=by kernel_rfl
theorem R26_Same_j1 {R:Type} (k:Nat):JS Try.prog 84 (R26_Same_a1 R k k) [0,1,5] ⟨[0,1,5],[],[4]⟩ (sel [1,1,0,1,0,0,1,0,0,0] (Try.f18.body.getD .skip)) :=
  piece_ok (nt:=84) (c:=(sel [1,1,0,1,0,0,1,0,0,0] (Try.f18.body.getD .skip))) (C:=R26_Same_C R k) (an:=An) (t:=(.seq (.reg [0,1,5,56] [[],[],[0,1],[0,1,2],[0,1,2,3],[],[],[5,6],[5,6,7],[5,6,7,8],[0,1,2,3,4,5,6,7,8,9],[0,1,2,3,4,5,6,7,8,9,10],[0,1,2,3,4,5,6,7,8,9,10,11],[0,1,2,3,4,5,6,7,8,9,10,11],[0,1,2,3,4,5,6,7,8,9,10,11,12,13],[0,1,2,3,4,5,6,7,8,9,10,11,12,13,14],[0,1,2,3,4,5,6,7,8,9,10,11,12,13,14,15],[0,1,2,3,4,5,6,7,8,9,10,11],[0,1,2,3,4,5,6,7,8,9,10,11],[0,1,2,3,4,5,6,7,8,9,10,11,17,18],[0,1,2,3,4,5,6,7,8,9,10,11,17,18,19],[0,1,2,3,4,5,6,7,8,9,10,11,17,18,19,20],[0,1,2,3,4,5,6,7,8,9,10,11,12,13,14,15,16,17,18,19,20,21],[0,1,2,3,4,5,6,7,8,9,10,11,12,13,14,15,16,17,18,19,20,21,22],[0,1,2,3,4,5,6,7,8,9,10,11,12,13,14,15,16,17,18,19,20,21,22,23],[0,1,2,3,4,5,6,7,8,9,10,11,12,13,14,15,16,17,18,19,20,21,22,23,24],[0,1,2,3,4,5,6,7,8,9,10,11,12,13,14,15,16,17,18,19,20,21,22,23,24],[0,1,2,3,4,5,6,7,8,9,10,11,12,13,14,15,16,17,18,19,20,21,22,23,24,25,26],[0,1,2,3,4,5,6,7,8,9,10,11,12,13,14,15,16,17,18,19,20,21,22,23,24,25,26,27],[0,1,2,3,4,5,6,7,8,9,10,11,12,13,14,15,16,17,18,19,20,21,22,23,24,25,26,27,28],[0,1,2,3,4,5,6,7,8,9,10,11,12,13,14,15,16,17,18,19,20,21,22,23,24,25,26,27,28,29],[0,1,2,3,4,5,6,7,8,9,10,11,12,13,14,15,16,17,18,19,20,21,22,23,24],[0,1,2,3,4,5,6,7,8,9,10,11,12,13,14,15,16,17,18,19,20,21,22,23,24],[0,1,2,3,4,5,6,7,8,9,10,11,12,13,14,15,16,17,18,19,20,21,22,23,24,31,32],[0,1,2,3,4,5,6,7,8,9,10,11,12,13,14,15,16,17,18,19,20,21,22,23,24,31,32,33],[0,1,2,3,4,5,6,7,8,9,10,11,12,13,14,15,16,17,18,19,20,21,22,23,24,31,32,33,34],[0,1,2,3,4,5,6,7,8,9,10,11,12,13,14,15,16,17,18,19,20,21,22,23,24,31,32,33,34,35],[0,1,2,3,4,5,6,7,8,9,10,11,12,13,14,15,16,17,18,19,20,21,22,23,24,25,26,27,28,29,30,31,32,33,34,35,36],[0,1,2,3,4,5,6,7,8,9,10,11,12,13,14,15,16,17,18,19,20,21,22,23,24,25,26,27,28,29,30,31,32,33,34,35,36,37]]) (.cond (.seq (.reg [4] []) .leaf) .leaf))) (ic:=R26_Same_i1) (R26_Same_S R k) (R26_Same_J R k) (by kernel_rfl) (And.intro True.intro (And.intro (And.intro True.intro True.intro) True.intro)) (R26_Same_a1 R k k)
    (fun vals H K r h => by
      unfold R26_Same_a1 R26_Same_aa1 at h
      split at h <;> first | (cases h; done) | exact Eq.trans (R26_Same_e1 (R26_Same_l0 k) (R26_Same_p1 k) (R26_Same_l2 k) k _ _ _ _ _ _ _ H K) h)
theorem R26_Same_e0 {R:Type} (R26_Same_l0:R26_Same_l0_t R) (R26_Same_p1:R26_Same_p1_t R) (R26_Same_l2:R26_Same_l2_t R) (k n:Nat) (q719:Oa) (l720:Nat) (c721:Nat) (q722:Oa) (l723:Nat) (c724:Nat) (n725:Int) (H:Heap) (K:Xit → Env → Heap → Option R):evJ (R26_Same_Ct) (R26_Same_Jt k R26_Same_l0 R26_Same_p1 R26_Same_l2) R26_Same_i0 (List.zip [0,1,5] [.slice q719 l720 c721,.slice q722 l723 c724,.int .i64 n725]) H (fun x e' H' => match x with | .normal => R26_Same_aa0 R26_Same_l0 n ((clean e' [0,1,5]).map (·.2)) H' K | x => K x (clean e' ((⟨[],[(0,[])],[4]⟩:Out).of x)) H') = R26_Same_l0_b R26_Same_p1 R26_Same_l2 (R26_Same_l0 (fun _ => K (.exit 0) [] H) (fun t1756 => K .ret [(4,.bool t1756)] H) n) (fun _ => K (.exit 0) [] H) (fun t1756 => K .ret [(4,.bool t1756)] H) k q719 l720 c721 q722 l723 c724 n725 H:=by kernel_rfl
theorem R26_Same_j0 {R:Type} (k:Nat):JS Try.prog 84 (R26_Same_a0 R k k) [0,1,5] ⟨[],[(0,[])],[4]⟩ (.loop (sel [1,1,0,1,0,0] (Try.f18.body.getD .skip))) :=
  loop_ok (nt:=84) (c:=(sel [1,1,0,1,0,0] (Try.f18.body.getD .skip))) (C:=R26_Same_C R k) (an:=An) (t:=(.seq (.seq (.reg [0,1,5,15] []) (.cond .leaf .leaf)) (.seq (.node (.seq (.opq 1 [0,1,5] ⟨[0,1,5],[],[4]⟩ (.seq (.reg [0,1,5,56] [[],[],[0,1],[0,1,2],[0,1,2,3],[],[],[5,6],[5,6,7],[5,6,7,8],[0,1,2,3,4,5,6,7,8,9],[0,1,2,3,4,5,6,7,8,9,10],[0,1,2,3,4,5,6,7,8,9,10,11],[0,1,2,3,4,5,6,7,8,9,10,11],[0,1,2,3,4,5,6,7,8,9,10,11,12,13],[0,1,2,3,4,5,6,7,8,9,10,11,12,13,14],[0,1,2,3,4,5,6,7,8,9,10,11,12,13,14,15],[0,1,2,3,4,5,6,7,8,9,10,11],[0,1,2,3,4,5,6,7,8,9,10,11],[0,1,2,3,4,5,6,7,8,9,10,11,17,18],[0,1,2,3,4,5,6,7,8,9,10,11,17,18,19],[0,1,2,3,4,5,6,7,8,9,10,11,17,18,19,20],[0,1,2,3,4,5,6,7,8,9,10,11,12,13,14,15,16,17,18,19,20,21],[0,1,2,3,4,5,6,7,8,9,10,11,12,13,14,15,16,17,18,19,20,21,22],[0,1,2,3,4,5,6,7,8,9,10,11,12,13,14,15,16,17,18,19,20,21,22,23],[0,1,2,3,4,5,6,7,8,9,10,11,12,13,14,15,16,17,18,19,20,21,22,23,24],[0,1,2,3,4,5,6,7,8,9,10,11,12,13,14,15,16,17,18,19,20,21,22,23,24],[0,1,2,3,4,5,6,7,8,9,10,11,12,13,14,15,16,17,18,19,20,21,22,23,24,25,26],[0,1,2,3,4,5,6,7,8,9,10,11,12,13,14,15,16,17,18,19,20,21,22,23,24,25,26,27],[0,1,2,3,4,5,6,7,8,9,10,11,12,13,14,15,16,17,18,19,20,21,22,23,24,25,26,27,28],[0,1,2,3,4,5,6,7,8,9,10,11,12,13,14,15,16,17,18,19,20,21,22,23,24,25,26,27,28,29],[0,1,2,3,4,5,6,7,8,9,10,11,12,13,14,15,16,17,18,19,20,21,22,23,24],[0,1,2,3,4,5,6,7,8,9,10,11,12,13,14,15,16,17,18,19,20,21,22,23,24],[0,1,2,3,4,5,6,7,8,9,10,11,12,13,14,15,16,17,18,19,20,21,22,23,24,31,32],[0,1,2,3,4,5,6,7,8,9,10,11,12,13,14,15,16,17,18,19,20,21,22,23,24,31,32,33],[0,1,2,3,4,5,6,7,8,9,10,11,12,13,14,15,16,17,18,19,20,21,22,23,24,31,32,33,34],[0,1,2,3,4,5,6,7,8,9,10,11,12,13,14,15,16,17,18,19,20,21,22,23,24,31,32,33,34,35],[0,1,2,3,4,5,6,7,8,9,10,11,12,13,14,15,16,17,18,19,20,21,22,23,24,25,26,27,28,29,30,31,32,33,34,35,36],[0,1,2,3,4,5,6,7,8,9,10,11,12,13,14,15,16,17,18,19,20,21,22,23,24,25,26,27,28,29,30,31,32,33,34,35,36,37]]) (.cond (.seq (.reg [4] []) .leaf) .leaf))) (.seq (.reg [0,1,5,6] []) (.node (.opq 2 [0,1,5,6] ⟨[],[(2,[0,1,5])],[4]⟩ (.node (.seq (.seq (.reg [0,1,5,6,64] []) (.cond .leaf .leaf)) (.seq (.node (.seq (.reg [0,1,5,6,83] [[],[],[0,1],[0,1,2],[0,1,2,3],[],[0,1,2,3,4,5],[0,1,2,3,4,5,6],[],[],[8,9],[8,9,10],[8,9,10,11],[],[8,9,10,11,12,13],[8,9,10,11,12,13,14],[0,1,2,3,4,5,6,7,8,9,10,11,12,13,14,15]]) (.cond (.seq (.reg [4] []) .leaf) .leaf))) (.reg [0,1,5,6] []))))))))) (.reg [0,1,5] [])))) (ic:=R26_Same_i0) (R26_Same_S R k) (R26_Same_J R k) (by kernel_rfl) (And.intro (And.intro True.intro (And.intro True.intro True.intro)) (And.intro (And.intro (R26_Same_j1 k) (And.intro True.intro (R26_Same_j2 k))) True.intro)) (R26_Same_a0 R k) (fun vals H K => by unfold R26_Same_a0 R26_Same_aa0; split <;> rfl)
    (fun n vals H K r h => by
      unfold R26_Same_a0 R26_Same_aa0 at h
      split at h <;> first | (cases h; done) | exact Eq.trans (R26_Same_e0 (R26_Same_l0 k) (R26_Same_p1 k) (R26_Same_l2 k) k n _ _ _ _ _ _ _ H K) h) k
def R26_Same_ca {R:Type} (f:R26_Same_t R) (args:List Value) (H:Heap) (K:Value → Heap → Option R):Option R :=
  match args with
  | [.slice q713 l714 c715,.slice q716 l717 c718] => f q713 l714 c715 q716 l717 c718 H (fun t1773 => K (.bool t1773) H)
  | _ => none
def R26_Same_c (R:Type) (k:Nat) (args:List Value) (H:Heap) (K:Value → Heap → Option R):Option R:=R26_Same_ca (R26_Same k) args H K
theorem R26_Same_e {R:Type} (R26_Same_l0:R26_Same_l0_t R) (R26_Same_p1:R26_Same_p1_t R) (R26_Same_l2:R26_Same_l2_t R) (k:Nat) (q713:Oa) (l714:Nat) (c715:Nat) (q716:Oa) (l717:Nat) (c718:Nat) (H:Heap) (K:Value → Heap → Option R):evF (R26_Same_Ct) (R26_Same_Jt k R26_Same_l0 R26_Same_p1 R26_Same_l2) R26_Same_f [.slice q713 l714 c715,.slice q716 l717 c718] H K = R26_Same_b R26_Same_l0 k q713 l714 c715 q716 l717 c718 H (fun t1773 => K (.bool t1773) H):=by kernel_rfl
theorem R26_Same_cs (R:Type) (k:Nat):∀ args H K r,R26_Same_c R k args H K = some r → ∃ v H',Tri Try.prog 18 args H v H' ∧ K v H' = some r:=by
  intro args H K r h
  unfold R26_Same_c R26_Same_ca at h
  split at h
  · exact evF_ok (C:=R26_Same_C R k) (an:=An) (t:=R26_Same_at) (fn:=Try.f18) (c:=(Try.f18.body.getD .skip)) (ifn:=R26_Same_f) (R26_Same_S R k) (R26_Same_J R k) Try.func18 (by kernel_rfl) (by kernel_rfl) (And.intro True.intro (And.intro (And.intro True.intro (And.intro (And.intro True.intro True.intro) True.intro)) (And.intro (And.intro True.intro (R26_Same_j0 k)) (And.intro True.intro True.intro)))) rfl (Eq.trans (R26_Same_e (R26_Same_l0 k) (R26_Same_p1 k) (R26_Same_l2 k) k _ _ _ _ _ _ H K) h)
  · cases h
abbrev R02_SameInts_l0_t (R:Type):Type:=(Unit → Option R) → (Bool → Option R) → Nat → Oa → Nat → Nat → Oa → Nat → Nat → Int → Heap → Option R
def R02_SameInts_l0_b {R:Type} (rec:Oa → Nat → Nat → Oa → Nat → Nat → Int → Heap → Option R) (KE0:Unit → Option R) (KR:Bool → Option R) (k:Nat) (q833:Oa) (l834:Nat) (c835:Nat) (q836:Oa) (l837:Nat) (c838:Nat) (n839:Int) (H:Heap):Option R :=
bif decide (n839 < ((l834:Nat):Int)) then (hidx q833 l834 n839 1 fun p840 =>
ldI .i64 H p840 fun n841 =>
hidx q836 l837 n839 1 fun p842 =>
ldI .i64 H p842 fun n843 =>
bif (n841 != n843) then (KR false)
 else (rec q833 l834 c835 q836 l837 c838 (IntKind.wrap .i64 (n839 + 1)) H))
 else (KE0 ())
def R02_SameInts_l0 {R:Type} (k:Nat) (KE0:Unit → Option R) (KR:Bool → Option R):Nat → Oa → Nat → Nat → Oa → Nat → Nat → Int → Heap → Option R
  | 0,_,_,_,_,_,_,_,_ => none
  | n + 1,q833,l834,c835,q836,l837,c838,n839,H => R02_SameInts_l0_b (R02_SameInts_l0 k KE0 KR n) KE0 KR k q833 l834 c835 q836 l837 c838 n839 H
abbrev R02_SameInts_t (R:Type):Type:=Oa → Nat → Nat → Oa → Nat → Nat → Heap → (Bool → Option R) → Option R
def R02_SameInts_b {R:Type} (R02_SameInts_l0:R02_SameInts_l0_t R) (k:Nat) (q827:Oa) (l828:Nat) (c829:Nat) (q830:Oa) (l831:Nat) (c832:Nat) (H:Heap) (K:Bool → Option R):Option R :=
bif (((l828:Nat):Int) != ((l831:Nat):Int)) then (K false)
 else (R02_SameInts_l0 (fun (_:Unit) =>
K true) (fun t845 =>
K t845) k q827 l828 c829 q830 l831 c832 0 H)
def R02_SameInts {R:Type} (k:Nat) (q827:Oa) (l828:Nat) (c829:Nat) (q830:Oa) (l831:Nat) (c832:Nat) (H:Heap) (K:Bool → Option R):Option R:=R02_SameInts_b (R02_SameInts_l0 k) k q827 l828 c829 q830 l831 c832 H K
def R02_SameInts_Ct {R:Type}:Tab R:=fun _ _ _ _ => none
def R02_SameInts_C (R:Type) (k:Nat):Tab R:=R02_SameInts_Ct
theorem R02_SameInts_S (R:Type) (k:Nat):CSound Try.prog (R02_SameInts_C R k):=csound_nil
def R02_SameInts_aa0 {R:Type} (f:R02_SameInts_l0_t R) (n:Nat) (vals:List Value) (H:Heap) (K:Xit → Env → Heap → Option R):Option R :=
  match vals with
  | [.slice q833 l834 c835,.slice q836 l837 c838,.int .i64 n839] => f (fun _ => K (.exit 0) [] H) (fun t1774 => K .ret [(4,.bool t1774)] H) n q833 l834 c835 q836 l837 c838 n839 H
  | _ => none
def R02_SameInts_a0 (R:Type) (k n:Nat) (vals:List Value) (H:Heap) (K:Xit → Env → Heap → Option R):Option R:=R02_SameInts_aa0 (R02_SameInts_l0 k) n vals H K
def R02_SameInts_Jt {R:Type} (k:Nat) (R02_SameInts_l0:R02_SameInts_l0_t R):JTab R:=tcons 0 (R02_SameInts_aa0 R02_SameInts_l0 k) <| fun _ _ _ _ => none
def R02_SameInts_J (R:Type) (k:Nat):JTab R:=R02_SameInts_Jt k (R02_SameInts_l0 k)
def R02_SameInts_at:AT:=(.seq (.reg [0,1] []) (.seq (.seq (.reg [0,1,10] []) (.cond (.seq (.reg [4] []) .leaf) .leaf)) (.seq (.seq (.reg [0,1,5] []) (.node (.opq 0 [0,1,5] ⟨[],[(0,[])],[4]⟩ (.node (.seq (.seq (.reg [0,1,5,14] []) (.cond .leaf .leaf)) (.seq (.node (.seq (.reg [0,1,5,25] [[],[],[0,1],[0,1,2],[],[],[4,5],[4,5,6],[0,1,2,3,4,5,6,7]]) (.cond (.seq (.reg [4] []) .leaf) .leaf))) (.reg [0,1,5] []))))))) (.seq (.reg [4] []) .leaf))))
def R02_SameInts_i0:IC:=(.seq (.seq (.reg [⟨some 11,.mov (.t 5),none⟩,
⟨some 12,.mov (.t 0),none⟩,
⟨some 13,.len false (.t 12),none⟩,
⟨some 14,.cmp .lss (.t 11) (.t 13),none⟩] [0,1,5,14]) (.cond (.t 14) .skip (.exit 0))) (.seq (.block 1 (.seq (.reg [⟨some 17,.mov (.t 0),none⟩,
⟨some 18,.mov (.t 5),none⟩,
⟨some 19,.ids 1 (.t 17) (.t 18),none⟩,
⟨some 20,.ld (.sc (.int .i64)) (.t 19),none⟩,
⟨some 21,.mov (.t 1),none⟩,
⟨some 22,.mov (.t 5),none⟩,
⟨some 23,.ids 1 (.t 21) (.t 22),none⟩,
⟨some 24,.ld (.sc (.int .i64)) (.t 23),none⟩,
⟨some 25,.cmp .neq (.t 20) (.t 24),none⟩] [0,1,5,25]) (.cond (.t 25) (.seq (.reg [⟨some 4,.mov (.c (Go.Value.bool false)),none⟩] [4]) .ret) .skip))) (.reg [⟨some 15,.mov (.t 5),none⟩,
⟨some 16,.bin .add .i64 (.t 15) (.c (Go.Value.int Go.IntKind.i64 1)),none⟩,
⟨some 5,.mov (.t 16),none⟩] [0,1,5])))
def R02_SameInts_f:IFn:=⟨26,[.t 4],(.seq (.reg [⟨some 4,.mov (.c (Go.Value.bool false)),none⟩] [0,1]) (.seq (.seq (.reg [⟨some 6,.mov (.t 0),none⟩,
⟨some 7,.len false (.t 6),none⟩,
⟨some 8,.mov (.t 1),none⟩,
⟨some 9,.len false (.t 8),none⟩,
⟨some 10,.cmp .neq (.t 7) (.t 9),none⟩] [0,1,10]) (.cond (.t 10) (.seq (.reg [⟨some 4,.mov (.c (Go.Value.bool false)),none⟩] [4]) .ret) .skip)) (.seq (.seq (.reg [⟨some 5,.mov (.c (Go.Value.int Go.IntKind.i64 0)),none⟩] [0,1,5]) (.block 0 (.opq 0 [0,1,5] (.loop R02_SameInts_i0)))) (.seq (.reg [⟨some 4,.mov (.c (Go.Value.bool true)),none⟩] [4]) .ret))))⟩
theorem R02_SameInts_e0 {R:Type} (R02_SameInts_l0:R02_SameInts_l0_t R) (k n:Nat) (q833:Oa) (l834:Nat) (c835:Nat) (q836:Oa) (l837:Nat) (c838:Nat) (n839:Int) (H:Heap) (K:Xit → Env → Heap → Option R):evJ (R02_SameInts_Ct) (R02_SameInts_Jt k R02_SameInts_l0) R02_SameInts_i0 (List.zip [0,1,5] [.slice q833 l834 c835,.slice q836 l837 c838,.int .i64 n839]) H (fun x e' H' => match x with | .normal => R02_SameInts_aa0 R02_SameInts_l0 n ((clean e' [0,1,5]).map (·.2)) H' K | x => K x (clean e' ((⟨[],[(0,[])],[4]⟩:Out).of x)) H') = R02_SameInts_l0_b (R02_SameInts_l0 (fun _ => K (.exit 0) [] H) (fun t1774 => K .ret [(4,.bool t1774)] H) n) (fun _ => K (.exit 0) [] H) (fun t1774 => K .ret [(4,.bool t1774)] H) k q833 l834 c835 q836 l837 c838 n839 H:=by kernel_rfl
theorem R02_SameInts_j0 {R:Type} (k:Nat):JS Try.prog 26 (R02_SameInts_a0 R k k) [0,1,5] ⟨[],[(0,[])],[4]⟩ (.loop (sel [1,1,0,1,0,0] (Try.f19.body.getD .skip))) :=
  loop_ok (nt:=26) (c:=(sel [1,1,0,1,0,0] (Try.f19.body.getD .skip))) (C:=R02_SameInts_C R k) (an:=An) (t:=(.seq (.seq (.reg [0,1,5,14] []) (.cond .leaf .leaf)) (.seq (.node (.seq (.reg [0,1,5,25] [[],[],[0,1],[0,1,2],[],[],[4,5],[4,5,6],[0,1,2,3,4,5,6,7]]) (.cond (.seq (.reg [4] []) .leaf) .leaf))) (.reg [0,1,5] [])))) (ic:=R02_SameInts_i0) (R02_SameInts_S R k) (R02_SameInts_J R k) (by kernel_rfl) (And.intro (And.intro True.intro (And.intro True.intro True.intro)) (And.intro (And.intro True.intro (And.intro (And.intro True.intro True.intro) True.intro)) True.intro)) (R02_SameInts_a0 R k) (fun vals H K => by unfold R02_SameInts_a0 R02_SameInts_aa0; split <;> rfl)
    (fun n vals H K r h => by
      unfold R02_SameInts_a0 R02_SameInts_aa0 at h
      split at h <;> first | (cases h; done) | exact Eq.trans (R02_SameInts_e0 (R02_SameInts_l0 k) k n _ _ _ _ _ _ _ H K) h) k
def R02_SameInts_ca {R:Type} (f:R02_SameInts_t R) (args:List Value) (H:Heap) (K:Value → Heap → Option R):Option R :=
  match args with
  | [.slice q827 l828 c829,.slice q830 l831 c832] => f q827 l828 c829 q830 l831 c832 H (fun t1775 => K (.bool t1775) H)
  | _ => none
def R02_SameInts_c (R:Type) (k:Nat) (args:List Value) (H:Heap) (K:Value → Heap → Option R):Option R:=R02_SameInts_ca (R02_SameInts k) args H K
theorem R02_SameInts_e {R:Type} (R02_SameInts_l0:R02_SameInts_l0_t R) (k:Nat) (q827:Oa) (l828:Nat) (c829:Nat) (q830:Oa) (l831:Nat) (c832:Nat) (H:Heap) (K:Value → Heap → Option R):evF (R02_SameInts_Ct) (R02_SameInts_Jt k R02_SameInts_l0) R02_SameInts_f [.slice q827 l828 c829,.slice q830 l831 c832] H K = R02_SameInts_b R02_SameInts_l0 k q827 l828 c829 q830 l831 c832 H (fun t1775 => K (.bool t1775) H):=by kernel_rfl
theorem R02_SameInts_cs (R:Type) (k:Nat):∀ args H K r,R02_SameInts_c R k args H K = some r → ∃ v H',Tri Try.prog 19 args H v H' ∧ K v H' = some r:=by
  intro args H K r h
  unfold R02_SameInts_c R02_SameInts_ca at h
  split at h
  · exact evF_ok (C:=R02_SameInts_C R k) (an:=An) (t:=R02_SameInts_at) (fn:=Try.f19) (c:=(Try.f19.body.getD .skip)) (ifn:=R02_SameInts_f) (R02_SameInts_S R k) (R02_SameInts_J R k) Try.func19 (by kernel_rfl) (by kernel_rfl) (And.intro True.intro (And.intro (And.intro True.intro (And.intro (And.intro True.intro True.intro) True.intro)) (And.intro (And.intro True.intro (R02_SameInts_j0 k)) (And.intro True.intro True.intro)))) rfl (Eq.trans (R02_SameInts_e (R02_SameInts_l0 k) k _ _ _ _ _ _ H K) h)
  · cases h
abbrev L_exampleHolds_p0_t (R:Type):Type:=Oa → Int → Oa → Int → Heap → (Oa → Oa → Heap → Option R) → (Bool → Heap → Option R) → Option R
def L_exampleHolds_p0_b {R:Type} (pkthead_State_Blocks:pkthead_State_Blocks_t R) (pkthead_State_Plan:pkthead_State_Plan_t R) (k:Nat) (p41:Oa) (n42:Int) (p43:Oa) (n44:Int) (H:Heap) (KN:Oa → Oa → Heap → Option R) (KR:Bool → Heap → Option R):Option R :=
bif (n42 != 0) then (KR false H)
 else (bif (n44 != 0) then (KR false H)
 else (bif p41.isNone then (KR false H)
 else (bif p43.isNone then (KR false H)
 else (pkthead_State_Blocks p41 H fun n45 =>
bif (n45 != 1) then (KR false H)
 else (hal H [.int .i64 0] fun p46 H47 =>
hal H47 [.int .i64 2] fun p48 H49 =>
pkthead_State_Plan p41 p46 1 1 p48 1 1 H49 fun n50 H51 =>
bif (n50 != 0) then (KR false H51)
 else (KN p41 p43 H51))))))
def L_exampleHolds_p0 {R:Type} (k:Nat) (p41:Oa) (n42:Int) (p43:Oa) (n44:Int) (H:Heap) (KN:Oa → Oa → Heap → Option R) (KR:Bool → Heap → Option R):Option R:=L_exampleHolds_p0_b pkthead_State_Blocks (pkthead_State_Plan k) k p41 n42 p43 n44 H KN KR
abbrev L_exampleHolds_p1_t (R:Type):Type:=Oa → Oa → Oa → Nat → Nat → Int → Heap → (Oa → Heap → Option R) → (Bool → Heap → Option R) → Option R
def L_exampleHolds_p1_b {R:Type} (R09_SameBytes:R09_SameBytes_t R) (pkthead_State_Passes:pkthead_State_Passes_t R) (k:Nat) (p67:Oa) (p68:Oa) (q69:Oa) (l70:Nat) (c71:Nat) (n72:Int) (H:Heap) (KN:Oa → Heap → Option R) (KR:Bool → Heap → Option R):Option R :=
bif (n72 != 0) then (KR false H)
 else (hal H [.int .u8 210,.int .u8 10] fun p73 H74 =>
R09_SameBytes q69 l70 c71 p73 2 2 H74 fun t75 =>
bif (!t75) then (KR false H74)
 else (pkthead_State_Passes p67 0 H74 fun n76 =>
bif (n76 != 4) then (KR false H74)
 else (KN p68 H74)))
def L_exampleHolds_p1 {R:Type} (k:Nat) (p67:Oa) (p68:Oa) (q69:Oa) (l70:Nat) (c71:Nat) (n72:Int) (H:Heap) (KN:Oa → Heap → Option R) (KR:Bool → Heap → Option R):Option R:=L_exampleHolds_p1_b R09_SameBytes (pkthead_State_Passes k) k p67 p68 q69 l70 c71 n72 H KN KR
abbrev L_exampleHolds_t (R:Type):Type:=Heap → (Bool → Heap → Option R) → Option R
def L_exampleHolds_b {R:Type} (pkthead_New:pkthead_New_t R) (L_exampleHolds_p0:L_exampleHolds_p0_t R) (pkthead_State_Encode:pkthead_State_Encode_t R) (L_exampleHolds_p1:L_exampleHolds_p1_t R) (pkthead_State_Decode:pkthead_State_Decode_t R) (R26_Same:R26_Same_t R) (pkthead_Parts:pkthead_Parts_t R) (R02_SameInts:R02_SameInts_t R) (k:Nat) (H:Heap) (K:Bool → Heap → Option R):Option R :=
hal H [.int .i64 1,.int .i64 1] fun p27 H28 =>
hal H28 [.int .i64 3] fun p29 H30 =>
pkthead_New p27 1 1 p29 1 1 false false false false false H30 fun p31 n32 H33 =>
hal H33 [.int .i64 1,.int .i64 1] fun p34 H35 =>
hal H35 [.int .i64 3] fun p36 H37 =>
pkthead_New p34 1 1 p36 1 1 false false false false false H37 fun p38 n39 H40 =>
L_exampleHolds_p0 p31 n32 p38 n39 H40 (fun p55 p56 H57 =>
hal H57 [.int .i64 5] fun p58 H59 =>
hal H59 [.int .i64 2,.int .i64 4,.slice p58 1 1] fun p60 H61 =>
pkthead_State_Encode p55 p60 1 1 H61 fun q62 l63 c64 n65 H66 =>
L_exampleHolds_p1 p55 p56 q62 l63 c64 n65 H66 (fun p79 H80 =>
hal H80 [.int .u8 210,.int .u8 10,.int .u8 77] fun p81 H82 =>
pkthead_State_Decode p79 p81 3 3 H82 fun q83 l84 c85 n86 n87 H88 =>
hal H88 [.int .u8 0] fun p89 H90 =>
pkthead_State_Decode p79 p89 1 1 H90 fun q91 l92 c93 n94 n95 H96 =>
hal H96 [.int .i64 1,.int .i64 0] fun p97 H98 =>
hal H98 [.int .i64 3] fun p99 H100 =>
pkthead_New p97 1 1 p99 1 1 false false false false false H100 fun p101 n102 H103 =>
bif (n87 == 0) then (bif (n86 == 2) then (hal H103 [.int .i64 5] fun p104 H105 =>
hal H105 [.int .i64 2,.int .i64 4,.slice p104 1 1] fun p106 H107 =>
R26_Same q83 l84 c85 p106 1 1 H107 fun t108 =>
bif t108 then (bif (n95 == 0) then (bif (n94 == 1) then (hal H107 [.int .i64 2,.int .i64 0,.slice none 0 0] fun p109 H110 =>
R26_Same q91 l92 c93 p109 1 1 H110 fun t111 =>
bif t111 then (bif (n102 == 2) then (pkthead_Parts 11 3 true false false false false H110 fun q112 l113 c114 H115 =>
hal H115 [.int .i64 1,.int .i64 1,.int .i64 1] fun p116 H117 =>
R02_SameInts q112 l113 c114 p116 3 3 H117 fun t118 =>
K t118 H117)
 else (K false H110))
 else (K false H110))
 else (K false H107))
 else (K false H107))
 else (K false H107))
 else (K false H103))
 else (K false H103)) (fun t119 H120 =>
K t119 H120)) (fun t121 H122 =>
K t121 H122)
def L_exampleHolds {R:Type} (k:Nat) (H:Heap) (K:Bool → Heap → Option R):Option R:=L_exampleHolds_b (pkthead_New k) (L_exampleHolds_p0 k) (pkthead_State_Encode k) (L_exampleHolds_p1 k) (pkthead_State_Decode k) (R26_Same k) (pkthead_Parts k) (R02_SameInts k) k H K
def L_exampleHolds_Ct {R:Type} (pkthead_New:pkthead_New_t R) (pkthead_State_Blocks:pkthead_State_Blocks_t R) (pkthead_State_Plan:pkthead_State_Plan_t R) (pkthead_State_Encode:pkthead_State_Encode_t R) (R09_SameBytes:R09_SameBytes_t R) (pkthead_State_Passes:pkthead_State_Passes_t R) (pkthead_State_Decode:pkthead_State_Decode_t R) (R26_Same:R26_Same_t R) (pkthead_Parts:pkthead_Parts_t R) (R02_SameInts:R02_SameInts_t R):Tab R:=tcons 10 (pkthead_New_ca pkthead_New) <| tcons 12 (pkthead_State_Blocks_ca pkthead_State_Blocks) <| tcons 22 (pkthead_State_Plan_ca pkthead_State_Plan) <| tcons 23 (pkthead_State_Encode_ca pkthead_State_Encode) <| tcons 24 (R09_SameBytes_ca R09_SameBytes) <| tcons 14 (pkthead_State_Passes_ca pkthead_State_Passes) <| tcons 16 (pkthead_State_Decode_ca pkthead_State_Decode) <| tcons 18 (R26_Same_ca R26_Same) <| tcons 20 (pkthead_Parts_ca pkthead_Parts) <| tcons 19 (R02_SameInts_ca R02_SameInts) <| fun _ _ _ _ => none
def L_exampleHolds_C (R:Type) (k:Nat):Tab R:=L_exampleHolds_Ct (pkthead_New k) pkthead_State_Blocks (pkthead_State_Plan k) (pkthead_State_Encode k) R09_SameBytes (pkthead_State_Passes k) (pkthead_State_Decode k) (R26_Same k) (pkthead_Parts k) (R02_SameInts k)
theorem L_exampleHolds_S (R:Type) (k:Nat):CSound Try.prog (L_exampleHolds_C R k):=csound_cons (pkthead_New_cs R k) <| csound_cons (pkthead_State_Blocks_cs R k) <| csound_cons (pkthead_State_Plan_cs R k) <| csound_cons (pkthead_State_Encode_cs R k) <| csound_cons (R09_SameBytes_cs R k) <| csound_cons (pkthead_State_Passes_cs R k) <| csound_cons (pkthead_State_Decode_cs R k) <| csound_cons (R26_Same_cs R k) <| csound_cons (pkthead_Parts_cs R k) <| csound_cons (R02_SameInts_cs R k) <| csound_nil
def L_exampleHolds_aa0 {R:Type} (f:L_exampleHolds_p0_t R) (n:Nat) (vals:List Value) (H:Heap) (K:Xit → Env → Heap → Option R):Option R :=
  match vals with
  | [.pointer p41,.int .i64 n42,.pointer p43,.int .i64 n44] => f p41 n42 p43 n44 H (fun p1776 p1777 H => K .normal [(1,.pointer p1776),(3,.pointer p1777)] H) (fun t1778 H => K .ret [(0,.bool t1778)] H)
  | _ => none
def L_exampleHolds_a0 (R:Type) (k n:Nat) (vals:List Value) (H:Heap) (K:Xit → Env → Heap → Option R):Option R:=L_exampleHolds_aa0 (L_exampleHolds_p0 k) n vals H K
def L_exampleHolds_aa1 {R:Type} (f:L_exampleHolds_p1_t R) (n:Nat) (vals:List Value) (H:Heap) (K:Xit → Env → Heap → Option R):Option R :=
  match vals with
  | [.pointer p67,.pointer p68,.slice q69 l70 c71,.int .i64 n72] => f p67 p68 q69 l70 c71 n72 H (fun p1779 H => K .normal [(3,.pointer p1779)] H) (fun t1780 H => K .ret [(0,.bool t1780)] H)
  | _ => none
def L_exampleHolds_a1 (R:Type) (k n:Nat) (vals:List Value) (H:Heap) (K:Xit → Env → Heap → Option R):Option R:=L_exampleHolds_aa1 (L_exampleHolds_p1 k) n vals H K
def L_exampleHolds_Jt {R:Type} (k:Nat) (L_exampleHolds_p0:L_exampleHolds_p0_t R) (L_exampleHolds_p1:L_exampleHolds_p1_t R):JTab R:=tcons 0 (L_exampleHolds_aa0 L_exampleHolds_p0 k) <| tcons 1 (L_exampleHolds_aa1 L_exampleHolds_p1 k) <| fun _ _ _ _ => none
def L_exampleHolds_J (R:Type) (k:Nat):JTab R:=L_exampleHolds_Jt k (L_exampleHolds_p0 k) (L_exampleHolds_p1 k)
def L_exampleHolds_at:AT:=(.seq (.reg [] []) (.seq (.reg [1,2] []) (.seq (.reg [1,2,3,4] []) (.seq (.opq 0 [1,2,3,4] ⟨[1,3],[],[0]⟩ (.seq (.reg [1,3,56] []) (.cond (.seq (.reg [0] []) .leaf) .leaf))) (.seq (.reg [1,3,5,6] []) (.seq (.opq 1 [1,3,5,6] ⟨[3],[],[0]⟩ (.seq (.reg [3,77] []) (.cond (.seq (.reg [0] []) .leaf) .leaf))) (.seq (.reg [3,7,8,9] []) (.seq (.reg [7,8,9,10,11,12] []) (.seq (.reg [7,8,9,10,11,12,14] []) (.seq (.reg [0] []) .leaf))))))))))
def L_exampleHolds_i1:IC:=(.seq (.reg [⟨some 65,.mov (.t 6),none⟩,
⟨some 66,.cmp .neq (.t 65) (.c (Go.Value.int Go.IntKind.i64 0)),none⟩,
⟨some 67,.mov (.t 66),none⟩,
⟨some 68,.mov (.t 5),some (67,false)⟩,
⟨some 69,.bls 2 [.int .u8 0,.int .u8 0] [(0,1,(.c (Go.Value.int Go.IntKind.u8 210))),(1,1,(.c (Go.Value.int Go.IntKind.u8 10)))],some (67,false)⟩,
⟨some 70,.call 24 [(.t 68),(.t 69)] (.one (.sc .bool)),some (67,false)⟩,
⟨some 71,.lnot (.t 70),some (67,false)⟩,
⟨some 72,.pick (.t 67) (.c (Go.Value.bool true)) (.t 71),none⟩,
⟨some 73,.mov (.t 72),none⟩,
⟨some 74,.mov (.t 1),some (73,false)⟩,
⟨some 75,.call 14 [(.t 74),(.c (Go.Value.int Go.IntKind.i64 0))] (.one (.sc (.int .i64))),some (73,false)⟩,
⟨some 76,.cmp .neq (.t 75) (.c (Go.Value.int Go.IntKind.i64 4)),some (73,false)⟩,
⟨some 77,.pick (.t 73) (.c (Go.Value.bool true)) (.t 76),none⟩] [3,77]) (.cond (.t 77) (.seq (.reg [⟨some 0,.mov (.c (Go.Value.bool false)),none⟩] [0]) .ret) .skip))
def L_exampleHolds_i0:IC:=(.seq (.reg [⟨some 31,.mov (.t 2),none⟩,
⟨some 32,.cmp .neq (.t 31) (.c (Go.Value.int Go.IntKind.i64 0)),none⟩,
⟨some 33,.mov (.t 32),none⟩,
⟨some 34,.mov (.t 4),some (33,false)⟩,
⟨some 35,.cmp .neq (.t 34) (.c (Go.Value.int Go.IntKind.i64 0)),some (33,false)⟩,
⟨some 36,.pick (.t 33) (.c (Go.Value.bool true)) (.t 35),none⟩,
⟨some 37,.mov (.t 36),none⟩,
⟨some 38,.mov (.t 1),some (37,false)⟩,
⟨some 39,.eqnil (.t 38) false 0,some (37,false)⟩,
⟨some 40,.pick (.t 37) (.c (Go.Value.bool true)) (.t 39),none⟩,
⟨some 41,.mov (.t 40),none⟩,
⟨some 42,.mov (.t 3),some (41,false)⟩,
⟨some 43,.eqnil (.t 42) false 0,some (41,false)⟩,
⟨some 44,.pick (.t 41) (.c (Go.Value.bool true)) (.t 43),none⟩,
⟨some 45,.mov (.t 44),none⟩,
⟨some 46,.mov (.t 1),some (45,false)⟩,
⟨some 47,.call 12 [(.t 46)] (.one (.sc (.int .i64))),some (45,false)⟩,
⟨some 48,.cmp .neq (.t 47) (.c (Go.Value.int Go.IntKind.i64 1)),some (45,false)⟩,
⟨some 49,.pick (.t 45) (.c (Go.Value.bool true)) (.t 48),none⟩,
⟨some 50,.mov (.t 49),none⟩,
⟨some 51,.mov (.t 1),some (50,false)⟩,
⟨some 52,.bls 1 [.int .i64 0] [(0,1,(.c (Go.Value.int Go.IntKind.i64 0)))],some (50,false)⟩,
⟨some 53,.bls 1 [.int .i64 0] [(0,1,(.c (Go.Value.int Go.IntKind.i64 2)))],some (50,false)⟩,
⟨some 54,.call 22 [(.t 51),(.t 52),(.t 53)] (.one (.sc (.int .i64))),some (50,false)⟩,
⟨some 55,.cmp .neq (.t 54) (.c (Go.Value.int Go.IntKind.i64 0)),some (50,false)⟩,
⟨some 56,.pick (.t 50) (.c (Go.Value.bool true)) (.t 55),none⟩] [1,3,56]) (.cond (.t 56) (.seq (.reg [⟨some 0,.mov (.c (Go.Value.bool false)),none⟩] [0]) .ret) .skip))
def L_exampleHolds_f:IFn:=⟨137,[.t 0],(.seq (.reg [⟨some 0,.mov (.c (Go.Value.bool false)),none⟩] []) (.seq (.reg [⟨some 16,.bld [.int .i64 0,.int .i64 0] [(0,1,(.c (Go.Value.int Go.IntKind.i64 1))),(1,1,(.c (Go.Value.int Go.IntKind.i64 1)))],none⟩,
⟨some 17,.bls 1 [.int .i64 0,.int .i64 0] [(0,2,(.t 16))],none⟩,
⟨some 18,.bls 1 [.int .i64 0] [(0,1,(.c (Go.Value.int Go.IntKind.i64 3)))],none⟩,
⟨some 19,.bld [.bool false,.bool false,.bool false,.bool false,.bool false] [],none⟩,
⟨some 20,.call 10 [(.t 17),(.t 18),(.t 19)] (.tup [(.sc .ptr),(.sc (.int .i64))]),none⟩,
⟨some 15,.mov (.t 20),none⟩,
⟨some 21,.ext 0 (.t 15),none⟩,
⟨some 22,.ext 1 (.t 15),none⟩,
⟨some 1,.mov (.t 21),none⟩,
⟨some 2,.mov (.t 22),none⟩] [1,2]) (.seq (.reg [⟨some 24,.bld [.int .i64 0,.int .i64 0] [(0,1,(.c (Go.Value.int Go.IntKind.i64 1))),(1,1,(.c (Go.Value.int Go.IntKind.i64 1)))],none⟩,
⟨some 25,.bls 1 [.int .i64 0,.int .i64 0] [(0,2,(.t 24))],none⟩,
⟨some 26,.bls 1 [.int .i64 0] [(0,1,(.c (Go.Value.int Go.IntKind.i64 3)))],none⟩,
⟨some 27,.bld [.bool false,.bool false,.bool false,.bool false,.bool false] [],none⟩,
⟨some 28,.call 10 [(.t 25),(.t 26),(.t 27)] (.tup [(.sc .ptr),(.sc (.int .i64))]),none⟩,
⟨some 23,.mov (.t 28),none⟩,
⟨some 29,.ext 0 (.t 23),none⟩,
⟨some 30,.ext 1 (.t 23),none⟩,
⟨some 3,.mov (.t 29),none⟩,
⟨some 4,.mov (.t 30),none⟩] [1,2,3,4]) (.seq (.opq 0 [1,2,3,4] L_exampleHolds_i0) (.seq (.reg [⟨some 58,.mov (.t 1),none⟩,
⟨some 59,.bls 1 [.int .i64 0] [(0,1,(.c (Go.Value.int Go.IntKind.i64 5)))],none⟩,
⟨some 60,.bld [.int .i64 0,.int .i64 0,.slice none 0 0] [(0,1,(.c (Go.Value.int Go.IntKind.i64 2))),(1,1,(.c (Go.Value.int Go.IntKind.i64 4))),(2,1,(.t 59))],none⟩,
⟨some 61,.bls 1 [.int .i64 0,.int .i64 0,.slice none 0 0] [(0,3,(.t 60))],none⟩,
⟨some 62,.call 23 [(.t 58),(.t 61)] (.tup [(.sc .slc),(.sc (.int .i64))]),none⟩,
⟨some 57,.mov (.t 62),none⟩,
⟨some 63,.ext 0 (.t 57),none⟩,
⟨some 64,.ext 1 (.t 57),none⟩,
⟨some 5,.mov (.t 63),none⟩,
⟨some 6,.mov (.t 64),none⟩] [1,3,5,6]) (.seq (.opq 1 [1,3,5,6] L_exampleHolds_i1) (.seq (.reg [⟨some 79,.mov (.t 3),none⟩,
⟨some 80,.bls 3 [.int .u8 0,.int .u8 0,.int .u8 0] [(0,1,(.c (Go.Value.int Go.IntKind.u8 210))),(1,1,(.c (Go.Value.int Go.IntKind.u8 10))),(2,1,(.c (Go.Value.int Go.IntKind.u8 77)))],none⟩,
⟨some 81,.call 16 [(.t 79),(.t 80)] (.tup [(.sc .slc),(.sc (.int .i64)),(.sc (.int .i64))]),none⟩,
⟨some 78,.mov (.t 81),none⟩,
⟨some 82,.ext 0 (.t 78),none⟩,
⟨some 83,.ext 1 (.t 78),none⟩,
⟨some 84,.ext 2 (.t 78),none⟩,
⟨some 7,.mov (.t 82),none⟩,
⟨some 8,.mov (.t 83),none⟩,
⟨some 9,.mov (.t 84),none⟩] [3,7,8,9]) (.seq (.reg [⟨some 86,.mov (.t 3),none⟩,
⟨some 87,.bls 1 [.int .u8 0] [(0,1,(.c (Go.Value.int Go.IntKind.u8 0)))],none⟩,
⟨some 88,.call 16 [(.t 86),(.t 87)] (.tup [(.sc .slc),(.sc (.int .i64)),(.sc (.int .i64))]),none⟩,
⟨some 85,.mov (.t 88),none⟩,
⟨some 89,.ext 0 (.t 85),none⟩,
⟨some 90,.ext 1 (.t 85),none⟩,
⟨some 91,.ext 2 (.t 85),none⟩,
⟨some 10,.mov (.t 89),none⟩,
⟨some 11,.mov (.t 90),none⟩,
⟨some 12,.mov (.t 91),none⟩] [7,8,9,10,11,12]) (.seq (.reg [⟨some 93,.bld [.int .i64 0,.int .i64 0] [(0,1,(.c (Go.Value.int Go.IntKind.i64 1)))],none⟩,
⟨some 94,.bls 1 [.int .i64 0,.int .i64 0] [(0,2,(.t 93))],none⟩,
⟨some 95,.bls 1 [.int .i64 0] [(0,1,(.c (Go.Value.int Go.IntKind.i64 3)))],none⟩,
⟨some 96,.bld [.bool false,.bool false,.bool false,.bool false,.bool false] [],none⟩,
⟨some 97,.call 10 [(.t 94),(.t 95),(.t 96)] (.tup [(.sc .ptr),(.sc (.int .i64))]),none⟩,
⟨some 92,.mov (.t 97),none⟩,
⟨some 98,.ext 0 (.t 92),none⟩,
⟨some 99,.ext 1 (.t 92),none⟩,
⟨some 13,.mov (.t 98),none⟩,
⟨some 14,.mov (.t 99),none⟩] [7,8,9,10,11,12,14]) (.seq (.reg [⟨some 100,.mov (.t 9),none⟩,
⟨some 101,.cmp .eql (.t 100) (.c (Go.Value.int Go.IntKind.i64 0)),none⟩,
⟨some 102,.mov (.t 101),none⟩,
⟨some 103,.mov (.t 8),some (102,true)⟩,
⟨some 104,.cmp .eql (.t 103) (.c (Go.Value.int Go.IntKind.i64 2)),some (102,true)⟩,
⟨some 105,.pick (.t 102) (.t 104) (.c (Go.Value.bool false)),none⟩,
⟨some 106,.mov (.t 105),none⟩,
⟨some 107,.mov (.t 7),some (106,true)⟩,
⟨some 108,.bls 1 [.int .i64 0] [(0,1,(.c (Go.Value.int Go.IntKind.i64 5)))],some (106,true)⟩,
⟨some 109,.bld [.int .i64 0,.int .i64 0,.slice none 0 0] [(0,1,(.c (Go.Value.int Go.IntKind.i64 2))),(1,1,(.c (Go.Value.int Go.IntKind.i64 4))),(2,1,(.t 108))],some (106,true)⟩,
⟨some 110,.bls 1 [.int .i64 0,.int .i64 0,.slice none 0 0] [(0,3,(.t 109))],some (106,true)⟩,
⟨some 111,.call 18 [(.t 107),(.t 110)] (.one (.sc .bool)),some (106,true)⟩,
⟨some 112,.pick (.t 106) (.t 111) (.c (Go.Value.bool false)),none⟩,
⟨some 113,.mov (.t 112),none⟩,
⟨some 114,.mov (.t 12),some (113,true)⟩,
⟨some 115,.cmp .eql (.t 114) (.c (Go.Value.int Go.IntKind.i64 0)),some (113,true)⟩,
⟨some 116,.pick (.t 113) (.t 115) (.c (Go.Value.bool false)),none⟩,
⟨some 117,.mov (.t 116),none⟩,
⟨some 118,.mov (.t 11),some (117,true)⟩,
⟨some 119,.cmp .eql (.t 118) (.c (Go.Value.int Go.IntKind.i64 1)),some (117,true)⟩,
⟨some 120,.pick (.t 117) (.t 119) (.c (Go.Value.bool false)),none⟩,
⟨some 121,.mov (.t 120),none⟩,
⟨some 122,.mov (.t 10),some (121,true)⟩,
⟨some 123,.bld [.int .i64 0,.int .i64 0,.slice none 0 0] [(0,1,(.c (Go.Value.int Go.IntKind.i64 2)))],some (121,true)⟩,
⟨some 124,.bls 1 [.int .i64 0,.int .i64 0,.slice none 0 0] [(0,3,(.t 123))],some (121,true)⟩,
⟨some 125,.call 18 [(.t 122),(.t 124)] (.one (.sc .bool)),some (121,true)⟩,
⟨some 126,.pick (.t 121) (.t 125) (.c (Go.Value.bool false)),none⟩,
⟨some 127,.mov (.t 126),none⟩,
⟨some 128,.mov (.t 14),some (127,true)⟩,
⟨some 129,.cmp .eql (.t 128) (.c (Go.Value.int Go.IntKind.i64 2)),some (127,true)⟩,
⟨some 130,.pick (.t 127) (.t 129) (.c (Go.Value.bool false)),none⟩,
⟨some 131,.mov (.t 130),none⟩,
⟨some 132,.bld [.bool false,.bool false,.bool false,.bool false,.bool false] [(0,1,(.c (Go.Value.bool true)))],some (131,true)⟩,
⟨some 133,.call 20 [(.c (Go.Value.int Go.IntKind.i64 11)),(.c (Go.Value.int Go.IntKind.i64 3)),(.t 132)] (.one (.sc .slc)),some (131,true)⟩,
⟨some 134,.bls 3 [.int .i64 0,.int .i64 0,.int .i64 0] [(0,1,(.c (Go.Value.int Go.IntKind.i64 1))),(1,1,(.c (Go.Value.int Go.IntKind.i64 1))),(2,1,(.c (Go.Value.int Go.IntKind.i64 1)))],some (131,true)⟩,
⟨some 135,.call 19 [(.t 133),(.t 134)] (.one (.sc .bool)),some (131,true)⟩,
⟨some 136,.pick (.t 131) (.t 135) (.c (Go.Value.bool false)),none⟩,
⟨some 0,.mov (.t 136),none⟩] [0]) .ret))))))))))⟩
theorem L_exampleHolds_e1 {R:Type} (pkthead_New:pkthead_New_t R) (pkthead_State_Blocks:pkthead_State_Blocks_t R) (pkthead_State_Plan:pkthead_State_Plan_t R) (pkthead_State_Encode:pkthead_State_Encode_t R) (R09_SameBytes:R09_SameBytes_t R) (pkthead_State_Passes:pkthead_State_Passes_t R) (pkthead_State_Decode:pkthead_State_Decode_t R) (R26_Same:R26_Same_t R) (pkthead_Parts:pkthead_Parts_t R) (R02_SameInts:R02_SameInts_t R) (L_exampleHolds_p0:L_exampleHolds_p0_t R) (L_exampleHolds_p1:L_exampleHolds_p1_t R) (k:Nat) (p67:Oa) (p68:Oa) (q69:Oa) (l70:Nat) (c71:Nat) (n72:Int) (H:Heap) (K:Xit → Env → Heap → Option R):evJ (L_exampleHolds_Ct pkthead_New pkthead_State_Blocks pkthead_State_Plan pkthead_State_Encode R09_SameBytes pkthead_State_Passes pkthead_State_Decode R26_Same pkthead_Parts R02_SameInts) (L_exampleHolds_Jt k L_exampleHolds_p0 L_exampleHolds_p1) L_exampleHolds_i1 (List.zip [1,3,5,6] [.pointer p67,.pointer p68,.slice q69 l70 c71,.int .i64 n72]) H (fun x e' H' => K x (clean e' ((⟨[3],[],[0]⟩:Out).of x)) H') = L_exampleHolds_p1_b R09_SameBytes pkthead_State_Passes k p67 p68 q69 l70 c71 n72 H (fun p1779 H => K .normal [(3,.pointer p1779)] H) (fun t1780 H => K .ret [(0,.bool t1780)] H):=by kernel_rfl
theorem L_exampleHolds_j1 {R:Type} (k:Nat):JS Try.prog 137 (L_exampleHolds_a1 R k k) [1,3,5,6] ⟨[3],[],[0]⟩ (sel [1,1,1,1,1,0] (Try.f9.body.getD .skip)) :=
  piece_ok (nt:=137) (c:=(sel [1,1,1,1,1,0] (Try.f9.body.getD .skip))) (C:=L_exampleHolds_C R k) (an:=An) (t:=(.seq (.reg [3,77] []) (.cond (.seq (.reg [0] []) .leaf) .leaf))) (ic:=L_exampleHolds_i1) (L_exampleHolds_S R k) (L_exampleHolds_J R k) (by kernel_rfl) (And.intro True.intro (And.intro (And.intro True.intro True.intro) True.intro)) (L_exampleHolds_a1 R k k)
    (fun vals H K r h => by
      unfold L_exampleHolds_a1 L_exampleHolds_aa1 at h
      split at h <;> first | (cases h; done) | exact Eq.trans (L_exampleHolds_e1 (pkthead_New k) pkthead_State_Blocks (pkthead_State_Plan k) (pkthead_State_Encode k) R09_SameBytes (pkthead_State_Passes k) (pkthead_State_Decode k) (R26_Same k) (pkthead_Parts k) (R02_SameInts k) (L_exampleHolds_p0 k) (L_exampleHolds_p1 k) k _ _ _ _ _ _ H K) h)
theorem L_exampleHolds_e0 {R:Type} (pkthead_New:pkthead_New_t R) (pkthead_State_Blocks:pkthead_State_Blocks_t R) (pkthead_State_Plan:pkthead_State_Plan_t R) (pkthead_State_Encode:pkthead_State_Encode_t R) (R09_SameBytes:R09_SameBytes_t R) (pkthead_State_Passes:pkthead_State_Passes_t R) (pkthead_State_Decode:pkthead_State_Decode_t R) (R26_Same:R26_Same_t R) (pkthead_Parts:pkthead_Parts_t R) (R02_SameInts:R02_SameInts_t R) (L_exampleHolds_p0:L_exampleHolds_p0_t R) (L_exampleHolds_p1:L_exampleHolds_p1_t R) (k:Nat) (p41:Oa) (n42:Int) (p43:Oa) (n44:Int) (H:Heap) (K:Xit → Env → Heap → Option R):evJ (L_exampleHolds_Ct pkthead_New pkthead_State_Blocks pkthead_State_Plan pkthead_State_Encode R09_SameBytes pkthead_State_Passes pkthead_State_Decode R26_Same pkthead_Parts R02_SameInts) (L_exampleHolds_Jt k L_exampleHolds_p0 L_exampleHolds_p1) L_exampleHolds_i0 (List.zip [1,2,3,4] [.pointer p41,.int .i64 n42,.pointer p43,.int .i64 n44]) H (fun x e' H' => K x (clean e' ((⟨[1,3],[],[0]⟩:Out).of x)) H') = L_exampleHolds_p0_b pkthead_State_Blocks pkthead_State_Plan k p41 n42 p43 n44 H (fun p1776 p1777 H => K .normal [(1,.pointer p1776),(3,.pointer p1777)] H) (fun t1778 H => K .ret [(0,.bool t1778)] H):=by kernel_rfl
theorem L_exampleHolds_j0 {R:Type} (k:Nat):JS Try.prog 137 (L_exampleHolds_a0 R k k) [1,2,3,4] ⟨[1,3],[],[0]⟩ (sel [1,1,1,0] (Try.f9.body.getD .skip)) :=
  piece_ok (nt:=137) (c:=(sel [1,1,1,0] (Try.f9.body.getD .skip))) (C:=L_exampleHolds_C R k) (an:=An) (t:=(.seq (.reg [1,3,56] []) (.cond (.seq (.reg [0] []) .leaf) .leaf))) (ic:=L_exampleHolds_i0) (L_exampleHolds_S R k) (L_exampleHolds_J R k) (by kernel_rfl) (And.intro True.intro (And.intro (And.intro True.intro True.intro) True.intro)) (L_exampleHolds_a0 R k k)
    (fun vals H K r h => by
      unfold L_exampleHolds_a0 L_exampleHolds_aa0 at h
      split at h <;> first | (cases h; done) | exact Eq.trans (L_exampleHolds_e0 (pkthead_New k) pkthead_State_Blocks (pkthead_State_Plan k) (pkthead_State_Encode k) R09_SameBytes (pkthead_State_Passes k) (pkthead_State_Decode k) (R26_Same k) (pkthead_Parts k) (R02_SameInts k) (L_exampleHolds_p0 k) (L_exampleHolds_p1 k) k _ _ _ _ H K) h)
def L_exampleHolds_ca {R:Type} (f:L_exampleHolds_t R) (args:List Value) (H:Heap) (K:Value → Heap → Option R):Option R :=
  match args with
  | [] => f H (fun t1781 H => K (.bool t1781) H)
  | _ => none
def L_exampleHolds_c (R:Type) (k:Nat) (args:List Value) (H:Heap) (K:Value → Heap → Option R):Option R:=L_exampleHolds_ca (L_exampleHolds k) args H K
theorem L_exampleHolds_e {R:Type} (pkthead_New:pkthead_New_t R) (pkthead_State_Blocks:pkthead_State_Blocks_t R) (pkthead_State_Plan:pkthead_State_Plan_t R) (pkthead_State_Encode:pkthead_State_Encode_t R) (R09_SameBytes:R09_SameBytes_t R) (pkthead_State_Passes:pkthead_State_Passes_t R) (pkthead_State_Decode:pkthead_State_Decode_t R) (R26_Same:R26_Same_t R) (pkthead_Parts:pkthead_Parts_t R) (R02_SameInts:R02_SameInts_t R) (L_exampleHolds_p0:L_exampleHolds_p0_t R) (L_exampleHolds_p1:L_exampleHolds_p1_t R) (k:Nat) (H:Heap) (K:Value → Heap → Option R):evF (L_exampleHolds_Ct pkthead_New pkthead_State_Blocks pkthead_State_Plan pkthead_State_Encode R09_SameBytes pkthead_State_Passes pkthead_State_Decode R26_Same pkthead_Parts R02_SameInts) (L_exampleHolds_Jt k L_exampleHolds_p0 L_exampleHolds_p1) L_exampleHolds_f [] H K = L_exampleHolds_b pkthead_New L_exampleHolds_p0 pkthead_State_Encode L_exampleHolds_p1 pkthead_State_Decode R26_Same pkthead_Parts R02_SameInts k H (fun t1781 H => K (.bool t1781) H):=by kernel_rfl
theorem L_exampleHolds_cs (R:Type) (k:Nat):∀ args H K r,L_exampleHolds_c R k args H K = some r → ∃ v H',Tri Try.prog 9 args H v H' ∧ K v H' = some r:=by
  intro args H K r h
  unfold L_exampleHolds_c L_exampleHolds_ca at h
  split at h
  · exact evF_ok (C:=L_exampleHolds_C R k) (an:=An) (t:=L_exampleHolds_at) (fn:=Try.f9) (c:=(Try.f9.body.getD .skip)) (ifn:=L_exampleHolds_f) (L_exampleHolds_S R k) (L_exampleHolds_J R k) Try.func9 (by kernel_rfl) (by kernel_rfl) (And.intro True.intro (And.intro True.intro (And.intro True.intro (And.intro (L_exampleHolds_j0 k) (And.intro True.intro (And.intro (L_exampleHolds_j1 k) (And.intro True.intro (And.intro True.intro (And.intro True.intro (And.intro True.intro True.intro)))))))))) rfl (Eq.trans (L_exampleHolds_e (pkthead_New k) pkthead_State_Blocks (pkthead_State_Plan k) (pkthead_State_Encode k) R09_SameBytes (pkthead_State_Passes k) (pkthead_State_Decode k) (R26_Same k) (pkthead_Parts k) (R02_SameInts k) (L_exampleHolds_p0 k) (L_exampleHolds_p1 k) k H K) h)
  · cases h
abbrev L_exampleHoldsq_t (R:Type):Type:=(Bool → Option R) → Option R
def L_exampleHoldsq {R:Type} (K:Bool → Option R):Option R:=K true
set_option maxRecDepth 1000000 in
theorem L_exampleHolds_run:L_exampleHolds_c Bool 200 [] [] asB = some true:=by kernel_rfl
def L_exampleHoldsq_ca {R:Type} (f:(Bool → Option R) → Option R) (args:List Value) (H:Heap) (K:Value → Heap → Option R):Option R :=
  match args with
  | [] => f (fun t => K (.bool t) H)
  | _ => none
def L_exampleHoldsq_c (R:Type) (k:Nat) (args:List Value) (H:Heap) (K:Value → Heap → Option R):Option R:=L_exampleHoldsq_ca L_exampleHoldsq args H K
theorem L_exampleHoldsq_cs (R:Type) (k:Nat):∀ args H K r,L_exampleHoldsq_c R k args H K = some r → ∃ v H',Tri Try.prog 9 args H v H' ∧ K v H' = some r:=by
  intro args H K r h
  unfold L_exampleHoldsq_c L_exampleHoldsq_ca at h
  split at h
  · exact ⟨_,_,closed_ok (L_exampleHolds_cs) L_exampleHolds_run H,h⟩
  · cases h
end Go.Proofs.Ytmanlfonppfhaaa.Sh
