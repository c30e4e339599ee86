/- Lean functions that stand for Go's, over an explicit heap, and the proofs that they do (written by this claim's program shallow.py). -/
import Derived.Test.YtblkejnciinaeaaSh0
import Derived.Test.YtblkejnciinaeaaSh1
import Derived.Test.YtblkejnciinaeaaSh2
import Derived.Test.YtblkejnciinaeaaSh3
set_option maxRecDepth 100000
set_option linter.unusedVariables false
set_option linter.unusedSimpArgs false
namespace Go.Proofs.Ytblkejnciinaeaa.Sh
open Go.Proofs.Ytblkejnciinaeaa.FW
/-! ### L_TagtreeOnce: function 5 -/
abbrev L_TagtreeOnce_p1_t (R : Type) : Type := Oa → Nat → Nat → Oa → Oa → Nat → Nat → Int → Int → Heap → (Oa → Nat → Nat → Oa → Oa → Nat → Nat → Int → Int → Heap → Option R) → Option R
def L_TagtreeOnce_p1_b {R : Type} (tagtree_Tree_Set : tagtree_Tree_Set_t R) (k : Nat) (q171 : Oa) (l172 : Nat) (c173 : Nat) (p174 : Oa) (q175 : Oa) (l176 : Nat) (c177 : Nat) (n178 : Int) (n179 : Int) (H : Heap) (KN : Oa → Nat → Nat → Oa → Oa → Nat → Nat → Int → Int → Heap → Option R) : Option R :=
hidx q175 l176 n179 4 fun p180 =>
ldI .i64 H (pad p180 0) fun n181 =>
ldI .i64 H (pad p180 1) fun n182 =>
ldI .i64 H (pad p180 2) fun n183 =>
ldI .i64 H (pad p180 3) fun n184 =>
hal H [.int .i64 0, .int .i64 0, .int .i64 0, .int .i64 0] fun p185 H186 =>
hst H186 p185 [.int .i64 n181, .int .i64 n182, .int .i64 n183, .int .i64 n184] fun H187 =>
hfad 0 p185 fun p188 =>
ldI .i64 H187 p188 fun n189 =>
bif (n189 == 0) then (hfad 1 p185 fun p190 =>
ldI .i64 H187 p190 fun n191 =>
hfad 2 p185 fun p192 =>
ldI .i64 H187 p192 fun n193 =>
hfad 3 p185 fun p194 =>
ldI .i64 H187 p194 fun n195 =>
tagtree_Tree_Set p174 n191 n193 n195 H187 fun n196 H197 =>
KN q171 l172 c173 p174 q175 l176 c177 n178 n179 H197)
 else (KN q171 l172 c173 p174 q175 l176 c177 n178 n179 H187)
def L_TagtreeOnce_p1 {R : Type} (k : Nat) (q171 : Oa) (l172 : Nat) (c173 : Nat) (p174 : Oa) (q175 : Oa) (l176 : Nat) (c177 : Nat) (n178 : Int) (n179 : Int) (H : Heap) (KN : Oa → Nat → Nat → Oa → Oa → Nat → Nat → Int → Int → Heap → Option R) : Option R := L_TagtreeOnce_p1_b (tagtree_Tree_Set k) k q171 l172 c173 p174 q175 l176 c177 n178 n179 H KN

abbrev L_TagtreeOnce_l0_t (R : Type) : Type := (Oa → Nat → Nat → Oa → Heap → Option R) → Nat → Oa → Nat → Nat → Oa → Oa → Nat → Nat → Int → Int → Heap → Option R
def L_TagtreeOnce_l0_b {R : Type} (L_TagtreeOnce_p1 : L_TagtreeOnce_p1_t R) (rec : Oa → Nat → Nat → Oa → Oa → Nat → Nat → Int → Int → Heap → Option R) (KE0 : Oa → Nat → Nat → Oa → Heap → Option R) (k : Nat) (q162 : Oa) (l163 : Nat) (c164 : Nat) (p165 : Oa) (q166 : Oa) (l167 : Nat) (c168 : Nat) (n169 : Int) (n170 : Int) (H : Heap) : Option R :=
bif decide (n170 < n169) then (L_TagtreeOnce_p1 q162 l163 c164 p165 q166 l167 c168 n169 n170 H (fun q207 l208 c209 p210 q211 l212 c213 n214 n215 H216 =>
rec q207 l208 c209 p210 q211 l212 c213 n214 (IntKind.wrap .i64 (n215 + 1)) H216))
 else (KE0 q162 l163 c164 p165 H)
def L_TagtreeOnce_l0 {R : Type} (k : Nat) (KE0 : Oa → Nat → Nat → Oa → Heap → Option R) : Nat → Oa → Nat → Nat → Oa → Oa → Nat → Nat → Int → Int → Heap → Option R
  | 0, _, _, _, _, _, _, _, _, _, _ => none
  | n + 1, q162, l163, c164, p165, q166, l167, c168, n169, n170, H => L_TagtreeOnce_l0_b (L_TagtreeOnce_p1 k) (L_TagtreeOnce_l0 k KE0 n) KE0 k q162 l163 c164 p165 q166 l167 c168 n169 n170 H

abbrev L_TagtreeOnce_p4_t (R : Type) : Type := Oa → Oa → Oa → Oa → Nat → Nat → Int → Int → Heap → (Oa → Oa → Oa → Nat → Nat → Int → Int → Heap → Option R) → (Oa → Oa → Oa → Oa → Nat → Nat → Int → Int → Heap → Option R) → Option R
def L_TagtreeOnce_p4_b {R : Type} (tagtree_Tree_Encode : tagtree_Tree_Encode_t R) (k : Nat) (p250 : Oa) (p251 : Oa) (p252 : Oa) (q253 : Oa) (l254 : Nat) (c255 : Nat) (n256 : Int) (n257 : Int) (H : Heap) (KE3 : Oa → Oa → Oa → Nat → Nat → Int → Int → Heap → Option R) (KN : Oa → Oa → Oa → Oa → Nat → Nat → Int → Int → Heap → Option R) : Option R :=
hfad 0 p252 fun p258 =>
ldI .i64 H p258 fun n259 =>
bif (n259 != 1) then (KE3 p250 p251 q253 l254 c255 n256 n257 H)
 else (hfad 1 p252 fun p260 =>
ldI .i64 H p260 fun n261 =>
hfad 2 p252 fun p262 =>
ldI .i64 H p262 fun n263 =>
hfad 3 p252 fun p264 =>
ldI .i64 H p264 fun n265 =>
tagtree_Tree_Encode p250 p251 n261 n263 n265 H fun n266 H267 =>
bif (n266 != 0) then (KE3 p250 p251 q253 l254 c255 n256 n257 H267)
 else (KN p250 p251 p252 q253 l254 c255 n256 n257 H267))
def L_TagtreeOnce_p4 {R : Type} (k : Nat) (p250 : Oa) (p251 : Oa) (p252 : Oa) (q253 : Oa) (l254 : Nat) (c255 : Nat) (n256 : Int) (n257 : Int) (H : Heap) (KE3 : Oa → Oa → Oa → Nat → Nat → Int → Int → Heap → Option R) (KN : Oa → Oa → Oa → Oa → Nat → Nat → Int → Int → Heap → Option R) : Option R := L_TagtreeOnce_p4_b (tagtree_Tree_Encode k) k p250 p251 p252 q253 l254 c255 n256 n257 H KE3 KN

abbrev L_TagtreeOnce_p3_t (R : Type) : Type := Oa → Oa → Oa → Nat → Nat → Int → Int → Heap → (Oa → Oa → Oa → Nat → Nat → Int → Int → Heap → Option R) → (Bool → Heap → Option R) → Option R
def L_TagtreeOnce_p3_b {R : Type} (L_TagtreeOnce_p4 : L_TagtreeOnce_p4_t R) (bitio_Writer_Len : bitio_Writer_Len_t R) (tagtree_Tree_Encode : tagtree_Tree_Encode_t R) (k : Nat) (p235 : Oa) (p236 : Oa) (q237 : Oa) (l238 : Nat) (c239 : Nat) (n240 : Int) (n241 : Int) (H : Heap) (KN : Oa → Oa → Oa → Nat → Nat → Int → Int → Heap → Option R) (KR : Bool → Heap → Option R) : Option R :=
hidx q237 l238 n241 4 fun p242 =>
ldI .i64 H (pad p242 0) fun n243 =>
ldI .i64 H (pad p242 1) fun n244 =>
ldI .i64 H (pad p242 2) fun n245 =>
ldI .i64 H (pad p242 3) fun n246 =>
hal H [.int .i64 0, .int .i64 0, .int .i64 0, .int .i64 0] fun p247 H248 =>
hst H248 p247 [.int .i64 n243, .int .i64 n244, .int .i64 n245, .int .i64 n246] fun H249 =>
L_TagtreeOnce_p4 p235 p236 p247 q237 l238 c239 n240 n241 H249 (fun p283 p284 q285 l286 c287 n288 n289 H290 =>
KN p283 p284 q285 l286 c287 n288 n289 H290) (fun p291 p292 p293 q294 l295 c296 n297 n298 H299 =>
bitio_Writer_Len p292 H299 fun n300 =>
hfad 1 p293 fun p301 =>
ldI .i64 H299 p301 fun n302 =>
hfad 2 p293 fun p303 =>
ldI .i64 H299 p303 fun n304 =>
hfad 3 p293 fun p305 =>
ldI .i64 H299 p305 fun n306 =>
tagtree_Tree_Encode p291 p292 n302 n304 n306 H299 fun n307 H308 =>
bif (n307 != 0) then (KR false H308)
 else (hfad 1 p293 fun p309 =>
ldI .i64 H308 p309 fun n310 =>
hfad 2 p293 fun p311 =>
ldI .i64 H308 p311 fun n312 =>
hfad 3 p293 fun p313 =>
ldI .i64 H308 p313 fun n314 =>
tagtree_Tree_Encode p291 p292 n310 n312 (IntKind.wrap .i64 (Int.tdiv n314 2)) H308 fun n315 H316 =>
bif (n315 != 0) then (KR false H316)
 else (bitio_Writer_Len p292 H316 fun n317 =>
bif (n317 != n300) then (KR false H316)
 else (KN p291 p292 q294 l295 c296 n297 n298 H316))))
def L_TagtreeOnce_p3 {R : Type} (k : Nat) (p235 : Oa) (p236 : Oa) (q237 : Oa) (l238 : Nat) (c239 : Nat) (n240 : Int) (n241 : Int) (H : Heap) (KN : Oa → Oa → Oa → Nat → Nat → Int → Int → Heap → Option R) (KR : Bool → Heap → Option R) : Option R := L_TagtreeOnce_p3_b (L_TagtreeOnce_p4 k) bitio_Writer_Len (tagtree_Tree_Encode k) k p235 p236 q237 l238 c239 n240 n241 H KN KR

abbrev L_TagtreeOnce_l2_t (R : Type) : Type := (Heap → Option R) → (Bool → Heap → Option R) → Nat → Oa → Oa → Oa → Nat → Nat → Int → Int → Heap → Option R
def L_TagtreeOnce_l2_b {R : Type} (L_TagtreeOnce_p3 : L_TagtreeOnce_p3_t R) (rec : Oa → Oa → Oa → Nat → Nat → Int → Int → Heap → Option R) (KE2 : Heap → Option R) (KR : Bool → Heap → Option R) (k : Nat) (p228 : Oa) (p229 : Oa) (q230 : Oa) (l231 : Nat) (c232 : Nat) (n233 : Int) (n234 : Int) (H : Heap) : Option R :=
bif decide (n234 < n233) then (L_TagtreeOnce_p3 p228 p229 q230 l231 c232 n233 n234 H (fun p326 p327 q328 l329 c330 n331 n332 H333 =>
rec p326 p327 q328 l329 c330 n331 (IntKind.wrap .i64 (n332 + 1)) H333) (fun t334 H335 =>
KR t334 H335))
 else (KE2 H)
def L_TagtreeOnce_l2 {R : Type} (k : Nat) (KE2 : Heap → Option R) (KR : Bool → Heap → Option R) : Nat → Oa → Oa → Oa → Nat → Nat → Int → Int → Heap → Option R
  | 0, _, _, _, _, _, _, _, _ => none
  | n + 1, p228, p229, q230, l231, c232, n233, n234, H => L_TagtreeOnce_l2_b (L_TagtreeOnce_p3 k) (L_TagtreeOnce_l2 k KE2 KR n) KE2 KR k p228 p229 q230 l231 c232 n233 n234 H

abbrev L_TagtreeOnce_t (R : Type) : Type := Int → Int → Oa → Nat → Nat → Heap → (Bool → Heap → Option R) → Option R

def L_TagtreeOnce_b {R : Type} (L_small : L_small_t R) (L_exampleHoldsq : L_exampleHoldsq_t R) (tagtree_New : tagtree_New_t R) (L_TagtreeOnce_l0 : L_TagtreeOnce_l0_t R) (bitio_NewWriter : bitio_NewWriter_t R) (L_TagtreeOnce_l2 : L_TagtreeOnce_l2_t R) (k : Nat) (n150 : Int) (n151 : Int) (q152 : Oa) (l153 : Nat) (c154 : Nat) (H : Heap) (K : Bool → Heap → Option R) : Option R :=
L_small n150 n151 q152 l153 c154 H fun t155 H156 =>
bif (!t155) then (L_exampleHoldsq fun t157 =>
K t157 H156)
 else (tagtree_New n150 n151 H156 fun p158 n159 H160 =>
bif (n159 != 0) then (L_exampleHoldsq fun t161 =>
K t161 H160)
 else (L_TagtreeOnce_l0 (fun q221 l222 c223 p224 H225 =>
bitio_NewWriter H225 fun p226 H227 =>
L_TagtreeOnce_l2 (fun H337 =>
L_exampleHoldsq fun t338 =>
K t338 H337) (fun t339 H340 =>
K t339 H340) k p224 p226 q221 l222 c223 ((l222 : Nat) : Int) 0 H227) k q152 l153 c154 p158 q152 l153 c154 ((l153 : Nat) : Int) 0 H160))

def L_TagtreeOnce {R : Type} (k : Nat) (n150 : Int) (n151 : Int) (q152 : Oa) (l153 : Nat) (c154 : Nat) (H : Heap) (K : Bool → Heap → Option R) : Option R := L_TagtreeOnce_b (L_small k) L_exampleHoldsq (tagtree_New k) (L_TagtreeOnce_l0 k) bitio_NewWriter (L_TagtreeOnce_l2 k) k n150 n151 q152 l153 c154 H K

def L_TagtreeOnce_Ct {R : Type} (L_small : L_small_t R) (L_exampleHoldsq : L_exampleHoldsq_t R) (tagtree_New : tagtree_New_t R) (tagtree_Tree_Set : tagtree_Tree_Set_t R) (bitio_NewWriter : bitio_NewWriter_t R) (tagtree_Tree_Encode : tagtree_Tree_Encode_t R) (bitio_Writer_Len : bitio_Writer_Len_t R) : Tab R := tcons 16 (L_small_ca L_small) <| tcons 15 (L_exampleHoldsq_ca L_exampleHoldsq) <| tcons 11 (tagtree_New_ca tagtree_New) <| tcons 19 (tagtree_Tree_Set_ca tagtree_Tree_Set) <| tcons 17 (bitio_NewWriter_ca bitio_NewWriter) <| tcons 21 (tagtree_Tree_Encode_ca tagtree_Tree_Encode) <| tcons 23 (bitio_Writer_Len_ca bitio_Writer_Len) <| fun _ _ _ _ => none
def L_TagtreeOnce_C (R : Type) (k : Nat) : Tab R := L_TagtreeOnce_Ct (L_small k) L_exampleHoldsq (tagtree_New k) (tagtree_Tree_Set k) bitio_NewWriter (tagtree_Tree_Encode k) bitio_Writer_Len
theorem L_TagtreeOnce_S (R : Type) (k : Nat) : CSound Try.prog (L_TagtreeOnce_C R k) := csound_cons (L_small_cs R k) <| csound_cons (L_exampleHoldsq_cs R k) <| csound_cons (tagtree_New_cs R k) <| csound_cons (tagtree_Tree_Set_cs R k) <| csound_cons (bitio_NewWriter_cs R k) <| csound_cons (tagtree_Tree_Encode_cs R k) <| csound_cons (bitio_Writer_Len_cs R k) <| csound_nil
def L_TagtreeOnce_aa0 {R : Type} (f : L_TagtreeOnce_l0_t R) (n : Nat) (vals : List Value) (H : Heap) (K : Xit → Env → Heap → Option R) : Option R :=
  match vals with
  | [.slice q162 l163 c164, .pointer p165, .slice q166 l167 c168, .int .i64 n169, .int .i64 n170] => f (fun q1748 l1749 c1750 p1751 H => K (.exit 0) [(2, .slice q1748 l1749 c1750), (7, .pointer p1751)] H) n q162 l163 c164 p165 q166 l167 c168 n169 n170 H
  | _ => none
def L_TagtreeOnce_a0 (R : Type) (k n : Nat) (vals : List Value) (H : Heap) (K : Xit → Env → Heap → Option R) : Option R := L_TagtreeOnce_aa0 (L_TagtreeOnce_l0 k) n vals H K
def L_TagtreeOnce_aa1 {R : Type} (f : L_TagtreeOnce_p1_t R) (n : Nat) (vals : List Value) (H : Heap) (K : Xit → Env → Heap → Option R) : Option R :=
  match vals with
  | [.slice q171 l172 c173, .pointer p174, .slice q175 l176 c177, .int .i64 n178, .int .i64 n179] => f q171 l172 c173 p174 q175 l176 c177 n178 n179 H (fun q1752 l1753 c1754 p1755 q1756 l1757 c1758 n1759 n1760 H => K .normal [(2, .slice q1752 l1753 c1754), (7, .pointer p1755), (30, .slice q1756 l1757 c1758), (31, .int .i64 n1759), (32, .int .i64 n1760)] H)
  | _ => none
def L_TagtreeOnce_a1 (R : Type) (k n : Nat) (vals : List Value) (H : Heap) (K : Xit → Env → Heap → Option R) : Option R := L_TagtreeOnce_aa1 (L_TagtreeOnce_p1 k) n vals H K
def L_TagtreeOnce_aa2 {R : Type} (f : L_TagtreeOnce_l2_t R) (n : Nat) (vals : List Value) (H : Heap) (K : Xit → Env → Heap → Option R) : Option R :=
  match vals with
  | [.pointer p228, .pointer p229, .slice q230 l231 c232, .int .i64 n233, .int .i64 n234] => f (fun H => K (.exit 2) [] H) (fun t1761 H => K .ret [(6, .bool t1761)] H) n p228 p229 q230 l231 c232 n233 n234 H
  | _ => none
def L_TagtreeOnce_a2 (R : Type) (k n : Nat) (vals : List Value) (H : Heap) (K : Xit → Env → Heap → Option R) : Option R := L_TagtreeOnce_aa2 (L_TagtreeOnce_l2 k) n vals H K
def L_TagtreeOnce_aa3 {R : Type} (f : L_TagtreeOnce_p3_t R) (n : Nat) (vals : List Value) (H : Heap) (K : Xit → Env → Heap → Option R) : Option R :=
  match vals with
  | [.pointer p235, .pointer p236, .slice q237 l238 c239, .int .i64 n240, .int .i64 n241] => f p235 p236 q237 l238 c239 n240 n241 H (fun p1762 p1763 q1764 l1765 c1766 n1767 n1768 H => K .normal [(7, .pointer p1762), (11, .pointer p1763), (49, .slice q1764 l1765 c1766), (50, .int .i64 n1767), (51, .int .i64 n1768)] H) (fun t1769 H => K .ret [(6, .bool t1769)] H)
  | _ => none
def L_TagtreeOnce_a3 (R : Type) (k n : Nat) (vals : List Value) (H : Heap) (K : Xit → Env → Heap → Option R) : Option R := L_TagtreeOnce_aa3 (L_TagtreeOnce_p3 k) n vals H K
def L_TagtreeOnce_aa4 {R : Type} (f : L_TagtreeOnce_p4_t R) (n : Nat) (vals : List Value) (H : Heap) (K : Xit → Env → Heap → Option R) : Option R :=
  match vals with
  | [.pointer p250, .pointer p251, .pointer p252, .slice q253 l254 c255, .int .i64 n256, .int .i64 n257] => f p250 p251 p252 q253 l254 c255 n256 n257 H (fun p1770 p1771 q1772 l1773 c1774 n1775 n1776 H => K (.exit 3) [(7, .pointer p1770), (11, .pointer p1771), (49, .slice q1772 l1773 c1774), (50, .int .i64 n1775), (51, .int .i64 n1776)] H) (fun p1777 p1778 p1779 q1780 l1781 c1782 n1783 n1784 H => K .normal [(7, .pointer p1777), (11, .pointer p1778), (13, .pointer p1779), (49, .slice q1780 l1781 c1782), (50, .int .i64 n1783), (51, .int .i64 n1784)] H)
  | _ => none
def L_TagtreeOnce_a4 (R : Type) (k n : Nat) (vals : List Value) (H : Heap) (K : Xit → Env → Heap → Option R) : Option R := L_TagtreeOnce_aa4 (L_TagtreeOnce_p4 k) n vals H K
def L_TagtreeOnce_Jt {R : Type} (k : Nat) (L_TagtreeOnce_l0 : L_TagtreeOnce_l0_t R) (L_TagtreeOnce_p1 : L_TagtreeOnce_p1_t R) (L_TagtreeOnce_l2 : L_TagtreeOnce_l2_t R) (L_TagtreeOnce_p3 : L_TagtreeOnce_p3_t R) (L_TagtreeOnce_p4 : L_TagtreeOnce_p4_t R) : JTab R := tcons 0 (L_TagtreeOnce_aa0 L_TagtreeOnce_l0 k) <| tcons 1 (L_TagtreeOnce_aa1 L_TagtreeOnce_p1 k) <| tcons 2 (L_TagtreeOnce_aa2 L_TagtreeOnce_l2 k) <| tcons 3 (L_TagtreeOnce_aa3 L_TagtreeOnce_p3 k) <| tcons 4 (L_TagtreeOnce_aa4 L_TagtreeOnce_p4 k) <| fun _ _ _ _ => none
def L_TagtreeOnce_J (R : Type) (k : Nat) : JTab R := L_TagtreeOnce_Jt k (L_TagtreeOnce_l0 k) (L_TagtreeOnce_p1 k) (L_TagtreeOnce_l2 k) (L_TagtreeOnce_p3 k) (L_TagtreeOnce_p4 k)
def L_TagtreeOnce_at : AT := (.seq (.reg [0, 1, 2] []) (.seq (.seq (.reg [0, 1, 2, 19] []) (.cond (.seq (.reg [6] []) .leaf) .leaf)) (.seq (.reg [2, 7, 8] []) (.seq (.seq (.reg [2, 7, 28] []) (.cond (.seq (.reg [6] []) .leaf) .leaf)) (.seq (.seq (.reg [2, 7, 30, 31, 32] []) (.node (.opq 0 [2, 7, 30, 31, 32] ⟨[], [(0, [2, 7])], []⟩ (.node (.seq (.reg [2, 7, 30, 31, 32, 33] []) (.seq (.cond .leaf .leaf) (.seq (.opq 1 [2, 7, 30, 31, 32] ⟨[2, 7, 30, 31, 32], [], []⟩ (.node (.seq (.reg [2, 7, 10, 30, 31, 32] []) (.seq (.reg [2, 7, 10, 30, 31, 32, 38] []) (.cond (.reg [2, 7, 30, 31, 32] []) .leaf))))) (.reg [2, 7, 30, 31, 32] [])))))))) (.seq (.reg [2, 7, 11] []) (.seq (.seq (.reg [7, 11, 49, 50, 51] []) (.node (.opq 2 [7, 11, 49, 50, 51] ⟨[], [(2, [])], [6]⟩ (.node (.seq (.reg [7, 11, 49, 50, 51, 52] []) (.seq (.cond .leaf .leaf) (.seq (.opq 3 [7, 11, 49, 50, 51] ⟨[7, 11, 49, 50, 51], [], [6]⟩ (.node (.seq (.reg [7, 11, 13, 49, 50, 51] []) (.seq (.opq 4 [7, 11, 13, 49, 50, 51] ⟨[7, 11, 13, 49, 50, 51], [(3, [7, 11, 49, 50, 51])], []⟩ (.seq (.reg [7, 11, 13, 49, 50, 51, 69] []) (.cond .leaf .leaf))) (.seq (.reg [7, 11, 13, 14, 49, 50, 51] []) (.seq (.reg [7, 11, 49, 50, 51, 100] []) (.cond (.seq (.reg [6] []) .leaf) .leaf))))))) (.reg [7, 11, 49, 50, 51] [])))))))) (.seq (.reg [6] []) .leaf))))))))
def L_TagtreeOnce_i4 : IC := (.seq (.reg [⟨some 55, .fad 0 (.t 13), none⟩,
 ⟨some 56, .ld (.sc (.int .i64)) (.t 55), none⟩,
 ⟨some 57, .cmp .neq (.t 56) (.c (Go.Value.int Go.IntKind.i64 1)), none⟩,
 ⟨some 58, .mov (.t 57), none⟩,
 ⟨some 59, .mov (.t 7), some (58, false)⟩,
 ⟨some 60, .mov (.t 11), some (58, false)⟩,
 ⟨some 61, .fad 1 (.t 13), some (58, false)⟩,
 ⟨some 62, .ld (.sc (.int .i64)) (.t 61), some (58, false)⟩,
 ⟨some 63, .fad 2 (.t 13), some (58, false)⟩,
 ⟨some 64, .ld (.sc (.int .i64)) (.t 63), some (58, false)⟩,
 ⟨some 65, .fad 3 (.t 13), some (58, false)⟩,
 ⟨some 66, .ld (.sc (.int .i64)) (.t 65), some (58, false)⟩,
 ⟨some 67, .call 21 [(.t 59), (.t 60), (.t 62), (.t 64), (.t 66)] (.one (.sc (.int .i64))), some (58, false)⟩,
 ⟨some 68, .cmp .neq (.t 67) (.c (Go.Value.int Go.IntKind.i64 0)), some (58, false)⟩,
 ⟨some 69, .pick (.t 58) (.c (Go.Value.bool true)) (.t 68), none⟩] [7, 11, 13, 49, 50, 51, 69]) (.cond (.t 69) (.exit 3) .skip))
def L_TagtreeOnce_i3 : IC := (.block 3 (.seq (.reg [⟨some 53, .ids 4 (.t 49) (.t 51), none⟩,
 ⟨some 54, .ld (.agg [(.int .i64), (.int .i64), (.int .i64), (.int .i64)]) (.t 53), none⟩,
 ⟨some 13, .alc [.int .i64 0, .int .i64 0, .int .i64 0, .int .i64 0], none⟩,
 ⟨none, .st 4 (.t 13) (.t 54), none⟩] [7, 11, 13, 49, 50, 51]) (.seq (.opq 4 [7, 11, 13, 49, 50, 51] L_TagtreeOnce_i4) (.seq (.reg [⟨some 70, .mov (.t 11), none⟩,
 ⟨some 71, .call 23 [(.t 70)] (.one (.sc (.int .i64))), none⟩,
 ⟨some 14, .mov (.t 71), none⟩] [7, 11, 13, 14, 49, 50, 51]) (.seq (.reg [⟨some 72, .mov (.t 7), none⟩,
 ⟨some 73, .mov (.t 11), none⟩,
 ⟨some 74, .fad 1 (.t 13), none⟩,
 ⟨some 75, .ld (.sc (.int .i64)) (.t 74), none⟩,
 ⟨some 76, .fad 2 (.t 13), none⟩,
 ⟨some 77, .ld (.sc (.int .i64)) (.t 76), none⟩,
 ⟨some 78, .fad 3 (.t 13), none⟩,
 ⟨some 79, .ld (.sc (.int .i64)) (.t 78), none⟩,
 ⟨some 80, .call 21 [(.t 72), (.t 73), (.t 75), (.t 77), (.t 79)] (.one (.sc (.int .i64))), none⟩,
 ⟨some 81, .cmp .neq (.t 80) (.c (Go.Value.int Go.IntKind.i64 0)), none⟩,
 ⟨some 82, .mov (.t 81), none⟩,
 ⟨some 83, .mov (.t 7), some (82, false)⟩,
 ⟨some 84, .mov (.t 11), some (82, false)⟩,
 ⟨some 85, .fad 1 (.t 13), some (82, false)⟩,
 ⟨some 86, .ld (.sc (.int .i64)) (.t 85), some (82, false)⟩,
 ⟨some 87, .fad 2 (.t 13), some (82, false)⟩,
 ⟨some 88, .ld (.sc (.int .i64)) (.t 87), some (82, false)⟩,
 ⟨some 89, .fad 3 (.t 13), some (82, false)⟩,
 ⟨some 90, .ld (.sc (.int .i64)) (.t 89), some (82, false)⟩,
 ⟨some 91, .bin .quo .i64 (.t 90) (.c (Go.Value.int Go.IntKind.i64 2)), some (82, false)⟩,
 ⟨some 92, .call 21 [(.t 83), (.t 84), (.t 86), (.t 88), (.t 91)] (.one (.sc (.int .i64))), some (82, false)⟩,
 ⟨some 93, .cmp .neq (.t 92) (.c (Go.Value.int Go.IntKind.i64 0)), some (82, false)⟩,
 ⟨some 94, .pick (.t 82) (.c (Go.Value.bool true)) (.t 93), none⟩,
 ⟨some 95, .mov (.t 94), none⟩,
 ⟨some 96, .mov (.t 11), some (95, false)⟩,
 ⟨some 97, .call 23 [(.t 96)] (.one (.sc (.int .i64))), some (95, false)⟩,
 ⟨some 98, .mov (.t 14), some (95, false)⟩,
 ⟨some 99, .cmp .neq (.t 97) (.t 98), some (95, false)⟩,
 ⟨some 100, .pick (.t 95) (.c (Go.Value.bool true)) (.t 99), none⟩] [7, 11, 49, 50, 51, 100]) (.cond (.t 100) (.seq (.reg [⟨some 6, .mov (.c (Go.Value.bool false)), none⟩] [6]) .ret) .skip))))))
def L_TagtreeOnce_i2 : IC := (.seq (.reg [⟨some 52, .cmp .lss (.t 51) (.t 50), none⟩] [7, 11, 49, 50, 51, 52]) (.seq (.cond (.t 52) .skip (.exit 2)) (.seq (.opq 3 [7, 11, 49, 50, 51] L_TagtreeOnce_i3) (.reg [⟨some 101, .bin .add .i64 (.t 51) (.c (Go.Value.int Go.IntKind.i64 1)), none⟩,
 ⟨some 51, .mov (.t 101), none⟩] [7, 11, 49, 50, 51]))))
def L_TagtreeOnce_i1 : IC := (.block 1 (.seq (.reg [⟨some 34, .ids 4 (.t 30) (.t 32), none⟩,
 ⟨some 35, .ld (.agg [(.int .i64), (.int .i64), (.int .i64), (.int .i64)]) (.t 34), none⟩,
 ⟨some 10, .alc [.int .i64 0, .int .i64 0, .int .i64 0, .int .i64 0], none⟩,
 ⟨none, .st 4 (.t 10) (.t 35), none⟩] [2, 7, 10, 30, 31, 32]) (.seq (.reg [⟨some 36, .fad 0 (.t 10), none⟩,
 ⟨some 37, .ld (.sc (.int .i64)) (.t 36), none⟩,
 ⟨some 38, .cmp .eql (.t 37) (.c (Go.Value.int Go.IntKind.i64 0)), none⟩] [2, 7, 10, 30, 31, 32, 38]) (.cond (.t 38) (.reg [⟨some 39, .mov (.t 7), none⟩,
 ⟨some 40, .fad 1 (.t 10), none⟩,
 ⟨some 41, .ld (.sc (.int .i64)) (.t 40), none⟩,
 ⟨some 42, .fad 2 (.t 10), none⟩,
 ⟨some 43, .ld (.sc (.int .i64)) (.t 42), none⟩,
 ⟨some 44, .fad 3 (.t 10), none⟩,
 ⟨some 45, .ld (.sc (.int .i64)) (.t 44), none⟩,
 ⟨some 46, .call 19 [(.t 39), (.t 41), (.t 43), (.t 45)] (.one (.sc (.int .i64))), none⟩] [2, 7, 30, 31, 32]) .skip))))
def L_TagtreeOnce_i0 : IC := (.seq (.reg [⟨some 33, .cmp .lss (.t 32) (.t 31), none⟩] [2, 7, 30, 31, 32, 33]) (.seq (.cond (.t 33) .skip (.exit 0)) (.seq (.opq 1 [2, 7, 30, 31, 32] L_TagtreeOnce_i1) (.reg [⟨some 47, .bin .add .i64 (.t 32) (.c (Go.Value.int Go.IntKind.i64 1)), none⟩,
 ⟨some 32, .mov (.t 47), none⟩] [2, 7, 30, 31, 32]))))
def L_TagtreeOnce_f : IFn := ⟨103, [.t 6], (.seq (.reg [⟨some 6, .mov (.c (Go.Value.bool false)), none⟩] [0, 1, 2]) (.seq (.seq (.reg [⟨some 15, .mov (.t 0), none⟩,
 ⟨some 16, .mov (.t 1), none⟩,
 ⟨some 17, .mov (.t 2), none⟩,
 ⟨some 18, .call 16 [(.t 15), (.t 16), (.t 17)] (.one (.sc .bool)), none⟩,
 ⟨some 19, .lnot (.t 18), none⟩] [0, 1, 2, 19]) (.cond (.t 19) (.seq (.reg [⟨some 20, .call 15 [] (.one (.sc .bool)), none⟩,
 ⟨some 6, .mov (.t 20), none⟩] [6]) .ret) .skip)) (.seq (.reg [⟨some 22, .mov (.t 0), none⟩,
 ⟨some 23, .mov (.t 1), none⟩,
 ⟨some 24, .call 11 [(.t 22), (.t 23)] (.tup [(.sc .ptr), (.sc (.int .i64))]), none⟩,
 ⟨some 21, .mov (.t 24), none⟩,
 ⟨some 25, .ext 0 (.t 21), none⟩,
 ⟨some 26, .ext 1 (.t 21), none⟩,
 ⟨some 7, .mov (.t 25), none⟩,
 ⟨some 8, .mov (.t 26), none⟩] [2, 7, 8]) (.seq (.seq (.reg [⟨some 27, .mov (.t 8), none⟩,
 ⟨some 28, .cmp .neq (.t 27) (.c (Go.Value.int Go.IntKind.i64 0)), none⟩] [2, 7, 28]) (.cond (.t 28) (.seq (.reg [⟨some 29, .call 15 [] (.one (.sc .bool)), none⟩,
 ⟨some 6, .mov (.t 29), none⟩] [6]) .ret) .skip)) (.seq (.seq (.reg [⟨some 30, .mov (.t 2), none⟩,
 ⟨some 31, .len false (.t 30), none⟩,
 ⟨some 32, .mov (.c (Go.Value.int Go.IntKind.i64 0)), none⟩] [2, 7, 30, 31, 32]) (.block 0 (.opq 0 [2, 7, 30, 31, 32] (.loop L_TagtreeOnce_i0)))) (.seq (.reg [⟨some 48, .call 17 [] (.one (.sc .ptr)), none⟩,
 ⟨some 11, .mov (.t 48), none⟩] [2, 7, 11]) (.seq (.seq (.reg [⟨some 49, .mov (.t 2), none⟩,
 ⟨some 50, .len false (.t 49), none⟩,
 ⟨some 51, .mov (.c (Go.Value.int Go.IntKind.i64 0)), none⟩] [7, 11, 49, 50, 51]) (.block 2 (.opq 2 [7, 11, 49, 50, 51] (.loop L_TagtreeOnce_i2)))) (.seq (.reg [⟨some 102, .call 15 [] (.one (.sc .bool)), none⟩,
 ⟨some 6, .mov (.t 102), none⟩] [6]) .ret))))))))⟩
theorem L_TagtreeOnce_e4 {R : Type} (L_small : L_small_t R) (L_exampleHoldsq : L_exampleHoldsq_t R) (tagtree_New : tagtree_New_t R) (tagtree_Tree_Set : tagtree_Tree_Set_t R) (bitio_NewWriter : bitio_NewWriter_t R) (tagtree_Tree_Encode : tagtree_Tree_Encode_t R) (bitio_Writer_Len : bitio_Writer_Len_t R) (L_TagtreeOnce_l0 : L_TagtreeOnce_l0_t R) (L_TagtreeOnce_p1 : L_TagtreeOnce_p1_t R) (L_TagtreeOnce_l2 : L_TagtreeOnce_l2_t R) (L_TagtreeOnce_p3 : L_TagtreeOnce_p3_t R) (L_TagtreeOnce_p4 : L_TagtreeOnce_p4_t R) (k : Nat) (p250 : Oa) (p251 : Oa) (p252 : Oa) (q253 : Oa) (l254 : Nat) (c255 : Nat) (n256 : Int) (n257 : Int) (H : Heap) (K : Xit → Env → Heap → Option R) : evJ (L_TagtreeOnce_Ct L_small L_exampleHoldsq tagtree_New tagtree_Tree_Set bitio_NewWriter tagtree_Tree_Encode bitio_Writer_Len) (L_TagtreeOnce_Jt k L_TagtreeOnce_l0 L_TagtreeOnce_p1 L_TagtreeOnce_l2 L_TagtreeOnce_p3 L_TagtreeOnce_p4) L_TagtreeOnce_i4 (List.zip [7, 11, 13, 49, 50, 51] [.pointer p250, .pointer p251, .pointer p252, .slice q253 l254 c255, .int .i64 n256, .int .i64 n257]) H (fun x e' H' => K x (clean e' ((⟨[7, 11, 13, 49, 50, 51], [(3, [7, 11, 49, 50, 51])], []⟩ : Out).of x)) H') = L_TagtreeOnce_p4_b tagtree_Tree_Encode k p250 p251 p252 q253 l254 c255 n256 n257 H (fun p1770 p1771 q1772 l1773 c1774 n1775 n1776 H => K (.exit 3) [(7, .pointer p1770), (11, .pointer p1771), (49, .slice q1772 l1773 c1774), (50, .int .i64 n1775), (51, .int .i64 n1776)] H) (fun p1777 p1778 p1779 q1780 l1781 c1782 n1783 n1784 H => K .normal [(7, .pointer p1777), (11, .pointer p1778), (13, .pointer p1779), (49, .slice q1780 l1781 c1782), (50, .int .i64 n1783), (51, .int .i64 n1784)] H) := by kernel_rfl
theorem L_TagtreeOnce_j4 {R : Type} (k : Nat) : JS Try.prog 103 (L_TagtreeOnce_a4 R k k) [7, 11, 13, 49, 50, 51] ⟨[7, 11, 13, 49, 50, 51], [(3, [7, 11, 49, 50, 51])], []⟩ (sel [1, 1, 1, 1, 1, 1, 0, 1, 0, 0, 1, 1, 0, 0, 1, 0] (Try.f5.body.getD .skip)) :=
  piece_ok (nt := 103) (c := (sel [1, 1, 1, 1, 1, 1, 0, 1, 0, 0, 1, 1, 0, 0, 1, 0] (Try.f5.body.getD .skip))) (C := L_TagtreeOnce_C R k) (an := An) (t := (.seq (.reg [7, 11, 13, 49, 50, 51, 69] []) (.cond .leaf .leaf))) (ic := L_TagtreeOnce_i4) (L_TagtreeOnce_S R k) (L_TagtreeOnce_J R k) (by kernel_rfl) (And.intro True.intro (And.intro True.intro True.intro)) (L_TagtreeOnce_a4 R k k)
    (fun vals H K r h => by
      unfold L_TagtreeOnce_a4 L_TagtreeOnce_aa4 at h
      split at h <;> first | (cases h; done) | exact Eq.trans (L_TagtreeOnce_e4 (L_small k) L_exampleHoldsq (tagtree_New k) (tagtree_Tree_Set k) bitio_NewWriter (tagtree_Tree_Encode k) bitio_Writer_Len (L_TagtreeOnce_l0 k) (L_TagtreeOnce_p1 k) (L_TagtreeOnce_l2 k) (L_TagtreeOnce_p3 k) (L_TagtreeOnce_p4 k) k _ _ _ _ _ _ _ _ H K) h)
theorem L_TagtreeOnce_e3 {R : Type} (L_small : L_small_t R) (L_exampleHoldsq : L_exampleHoldsq_t R) (tagtree_New : tagtree_New_t R) (tagtree_Tree_Set : tagtree_Tree_Set_t R) (bitio_NewWriter : bitio_NewWriter_t R) (tagtree_Tree_Encode : tagtree_Tree_Encode_t R) (bitio_Writer_Len : bitio_Writer_Len_t R) (L_TagtreeOnce_l0 : L_TagtreeOnce_l0_t R) (L_TagtreeOnce_p1 : L_TagtreeOnce_p1_t R) (L_TagtreeOnce_l2 : L_TagtreeOnce_l2_t R) (L_TagtreeOnce_p3 : L_TagtreeOnce_p3_t R) (L_TagtreeOnce_p4 : L_TagtreeOnce_p4_t R) (k : Nat) (p235 : Oa) (p236 : Oa) (q237 : Oa) (l238 : Nat) (c239 : Nat) (n240 : Int) (n241 : Int) (H : Heap) (K : Xit → Env → Heap → Option R) : evJ (L_TagtreeOnce_Ct L_small L_exampleHoldsq tagtree_New tagtree_Tree_Set bitio_NewWriter tagtree_Tree_Encode bitio_Writer_Len) (L_TagtreeOnce_Jt k L_TagtreeOnce_l0 L_TagtreeOnce_p1 L_TagtreeOnce_l2 L_TagtreeOnce_p3 L_TagtreeOnce_p4) L_TagtreeOnce_i3 (List.zip [7, 11, 49, 50, 51] [.pointer p235, .pointer p236, .slice q237 l238 c239, .int .i64 n240, .int .i64 n241]) H (fun x e' H' => K x (clean e' ((⟨[7, 11, 49, 50, 51], [], [6]⟩ : Out).of x)) H') = L_TagtreeOnce_p3_b L_TagtreeOnce_p4 bitio_Writer_Len tagtree_Tree_Encode k p235 p236 q237 l238 c239 n240 n241 H (fun p1762 p1763 q1764 l1765 c1766 n1767 n1768 H => K .normal [(7, .pointer p1762), (11, .pointer p1763), (49, .slice q1764 l1765 c1766), (50, .int .i64 n1767), (51, .int .i64 n1768)] H) (fun t1769 H => K .ret [(6, .bool t1769)] H) := by kernel_rfl
theorem L_TagtreeOnce_j3 {R : Type} (k : Nat) : JS Try.prog 103 (L_TagtreeOnce_a3 R k k) [7, 11, 49, 50, 51] ⟨[7, 11, 49, 50, 51], [], [6]⟩ (sel [1, 1, 1, 1, 1, 1, 0, 1, 0, 0, 1, 1, 0] (Try.f5.body.getD .skip)) :=
  piece_ok (nt := 103) (c := (sel [1, 1, 1, 1, 1, 1, 0, 1, 0, 0, 1, 1, 0] (Try.f5.body.getD .skip))) (C := L_TagtreeOnce_C R k) (an := An) (t := (.node (.seq (.reg [7, 11, 13, 49, 50, 51] []) (.seq (.opq 4 [7, 11, 13, 49, 50, 51] ⟨[7, 11, 13, 49, 50, 51], [(3, [7, 11, 49, 50, 51])], []⟩ (.seq (.reg [7, 11, 13, 49, 50, 51, 69] []) (.cond .leaf .leaf))) (.seq (.reg [7, 11, 13, 14, 49, 50, 51] []) (.seq (.reg [7, 11, 49, 50, 51, 100] []) (.cond (.seq (.reg [6] []) .leaf) .leaf))))))) (ic := L_TagtreeOnce_i3) (L_TagtreeOnce_S R k) (L_TagtreeOnce_J R k) (by kernel_rfl) (And.intro True.intro (And.intro (L_TagtreeOnce_j4 k) (And.intro True.intro (And.intro True.intro (And.intro (And.intro True.intro True.intro) True.intro))))) (L_TagtreeOnce_a3 R k k)
    (fun vals H K r h => by
      unfold L_TagtreeOnce_a3 L_TagtreeOnce_aa3 at h
      split at h <;> first | (cases h; done) | exact Eq.trans (L_TagtreeOnce_e3 (L_small k) L_exampleHoldsq (tagtree_New k) (tagtree_Tree_Set k) bitio_NewWriter (tagtree_Tree_Encode k) bitio_Writer_Len (L_TagtreeOnce_l0 k) (L_TagtreeOnce_p1 k) (L_TagtreeOnce_l2 k) (L_TagtreeOnce_p3 k) (L_TagtreeOnce_p4 k) k _ _ _ _ _ _ _ H K) h)
theorem L_TagtreeOnce_e2 {R : Type} (L_small : L_small_t R) (L_exampleHoldsq : L_exampleHoldsq_t R) (tagtree_New : tagtree_New_t R) (tagtree_Tree_Set : tagtree_Tree_Set_t R) (bitio_NewWriter : bitio_NewWriter_t R) (tagtree_Tree_Encode : tagtree_Tree_Encode_t R) (bitio_Writer_Len : bitio_Writer_Len_t R) (L_TagtreeOnce_l0 : L_TagtreeOnce_l0_t R) (L_TagtreeOnce_p1 : L_TagtreeOnce_p1_t R) (L_TagtreeOnce_l2 : L_TagtreeOnce_l2_t R) (L_TagtreeOnce_p3 : L_TagtreeOnce_p3_t R) (L_TagtreeOnce_p4 : L_TagtreeOnce_p4_t R) (k n : Nat) (p228 : Oa) (p229 : Oa) (q230 : Oa) (l231 : Nat) (c232 : Nat) (n233 : Int) (n234 : Int) (H : Heap) (K : Xit → Env → Heap → Option R) : evJ (L_TagtreeOnce_Ct L_small L_exampleHoldsq tagtree_New tagtree_Tree_Set bitio_NewWriter tagtree_Tree_Encode bitio_Writer_Len) (L_TagtreeOnce_Jt k L_TagtreeOnce_l0 L_TagtreeOnce_p1 L_TagtreeOnce_l2 L_TagtreeOnce_p3 L_TagtreeOnce_p4) L_TagtreeOnce_i2 (List.zip [7, 11, 49, 50, 51] [.pointer p228, .pointer p229, .slice q230 l231 c232, .int .i64 n233, .int .i64 n234]) H (fun x e' H' => match x with | .normal => L_TagtreeOnce_aa2 L_TagtreeOnce_l2 n ((clean e' [7, 11, 49, 50, 51]).map (·.2)) H' K | x => K x (clean e' ((⟨[], [(2, [])], [6]⟩ : Out).of x)) H') = L_TagtreeOnce_l2_b L_TagtreeOnce_p3 (L_TagtreeOnce_l2 (fun H => K (.exit 2) [] H) (fun t1761 H => K .ret [(6, .bool t1761)] H) n) (fun H => K (.exit 2) [] H) (fun t1761 H => K .ret [(6, .bool t1761)] H) k p228 p229 q230 l231 c232 n233 n234 H := by kernel_rfl
theorem L_TagtreeOnce_j2 {R : Type} (k : Nat) : JS Try.prog 103 (L_TagtreeOnce_a2 R k k) [7, 11, 49, 50, 51] ⟨[], [(2, [])], [6]⟩ (.loop (sel [1, 1, 1, 1, 1, 1, 0, 1, 0, 0] (Try.f5.body.getD .skip))) :=
  loop_ok (nt := 103) (c := (sel [1, 1, 1, 1, 1, 1, 0, 1, 0, 0] (Try.f5.body.getD .skip))) (C := L_TagtreeOnce_C R k) (an := An) (t := (.seq (.reg [7, 11, 49, 50, 51, 52] []) (.seq (.cond .leaf .leaf) (.seq (.opq 3 [7, 11, 49, 50, 51] ⟨[7, 11, 49, 50, 51], [], [6]⟩ (.node (.seq (.reg [7, 11, 13, 49, 50, 51] []) (.seq (.opq 4 [7, 11, 13, 49, 50, 51] ⟨[7, 11, 13, 49, 50, 51], [(3, [7, 11, 49, 50, 51])], []⟩ (.seq (.reg [7, 11, 13, 49, 50, 51, 69] []) (.cond .leaf .leaf))) (.seq (.reg [7, 11, 13, 14, 49, 50, 51] []) (.seq (.reg [7, 11, 49, 50, 51, 100] []) (.cond (.seq (.reg [6] []) .leaf) .leaf))))))) (.reg [7, 11, 49, 50, 51] []))))) (ic := L_TagtreeOnce_i2) (L_TagtreeOnce_S R k) (L_TagtreeOnce_J R k) (by kernel_rfl) (And.intro True.intro (And.intro (And.intro True.intro True.intro) (And.intro (L_TagtreeOnce_j3 k) True.intro))) (L_TagtreeOnce_a2 R k) (fun vals H K => by unfold L_TagtreeOnce_a2 L_TagtreeOnce_aa2; split <;> rfl)
    (fun n vals H K r h => by
      unfold L_TagtreeOnce_a2 L_TagtreeOnce_aa2 at h
      split at h <;> first | (cases h; done) | exact Eq.trans (L_TagtreeOnce_e2 (L_small k) L_exampleHoldsq (tagtree_New k) (tagtree_Tree_Set k) bitio_NewWriter (tagtree_Tree_Encode k) bitio_Writer_Len (L_TagtreeOnce_l0 k) (L_TagtreeOnce_p1 k) (L_TagtreeOnce_l2 k) (L_TagtreeOnce_p3 k) (L_TagtreeOnce_p4 k) k n _ _ _ _ _ _ _ H K) h) k
theorem L_TagtreeOnce_e1 {R : Type} (L_small : L_small_t R) (L_exampleHoldsq : L_exampleHoldsq_t R) (tagtree_New : tagtree_New_t R) (tagtree_Tree_Set : tagtree_Tree_Set_t R) (bitio_NewWriter : bitio_NewWriter_t R) (tagtree_Tree_Encode : tagtree_Tree_Encode_t R) (bitio_Writer_Len : bitio_Writer_Len_t R) (L_TagtreeOnce_l0 : L_TagtreeOnce_l0_t R) (L_TagtreeOnce_p1 : L_TagtreeOnce_p1_t R) (L_TagtreeOnce_l2 : L_TagtreeOnce_l2_t R) (L_TagtreeOnce_p3 : L_TagtreeOnce_p3_t R) (L_TagtreeOnce_p4 : L_TagtreeOnce_p4_t R) (k : Nat) (q171 : Oa) (l172 : Nat) (c173 : Nat) (p174 : Oa) (q175 : Oa) (l176 : Nat) (c177 : Nat) (n178 : Int) (n179 : Int) (H : Heap) (K : Xit → Env → Heap → Option R) : evJ (L_TagtreeOnce_Ct L_small L_exampleHoldsq tagtree_New tagtree_Tree_Set bitio_NewWriter tagtree_Tree_Encode bitio_Writer_Len) (L_TagtreeOnce_Jt k L_TagtreeOnce_l0 L_TagtreeOnce_p1 L_TagtreeOnce_l2 L_TagtreeOnce_p3 L_TagtreeOnce_p4) L_TagtreeOnce_i1 (List.zip [2, 7, 30, 31, 32] [.slice q171 l172 c173, .pointer p174, .slice q175 l176 c177, .int .i64 n178, .int .i64 n179]) H (fun x e' H' => K x (clean e' ((⟨[2, 7, 30, 31, 32], [], []⟩ : Out).of x)) H') = L_TagtreeOnce_p1_b tagtree_Tree_Set k q171 l172 c173 p174 q175 l176 c177 n178 n179 H (fun q1752 l1753 c1754 p1755 q1756 l1757 c1758 n1759 n1760 H => K .normal [(2, .slice q1752 l1753 c1754), (7, .pointer p1755), (30, .slice q1756 l1757 c1758), (31, .int .i64 n1759), (32, .int .i64 n1760)] H) := by kernel_rfl
theorem L_TagtreeOnce_j1 {R : Type} (k : Nat) : JS Try.prog 103 (L_TagtreeOnce_a1 R k k) [2, 7, 30, 31, 32] ⟨[2, 7, 30, 31, 32], [], []⟩ (sel [1, 1, 1, 1, 0, 1, 0, 0, 1, 1, 0] (Try.f5.body.getD .skip)) :=
  piece_ok (nt := 103) (c := (sel [1, 1, 1, 1, 0, 1, 0, 0, 1, 1, 0] (Try.f5.body.getD .skip))) (C := L_TagtreeOnce_C R k) (an := An) (t := (.node (.seq (.reg [2, 7, 10, 30, 31, 32] []) (.seq (.reg [2, 7, 10, 30, 31, 32, 38] []) (.cond (.reg [2, 7, 30, 31, 32] []) .leaf))))) (ic := L_TagtreeOnce_i1) (L_TagtreeOnce_S R k) (L_TagtreeOnce_J R k) (by kernel_rfl) (And.intro True.intro (And.intro True.intro (And.intro True.intro True.intro))) (L_TagtreeOnce_a1 R k k)
    (fun vals H K r h => by
      unfold L_TagtreeOnce_a1 L_TagtreeOnce_aa1 at h
      split at h <;> first | (cases h; done) | exact Eq.trans (L_TagtreeOnce_e1 (L_small k) L_exampleHoldsq (tagtree_New k) (tagtree_Tree_Set k) bitio_NewWriter (tagtree_Tree_Encode k) bitio_Writer_Len (L_TagtreeOnce_l0 k) (L_TagtreeOnce_p1 k) (L_TagtreeOnce_l2 k) (L_TagtreeOnce_p3 k) (L_TagtreeOnce_p4 k) k _ _ _ _ _ _ _ _ _ H K) h)
theorem L_TagtreeOnce_e0 {R : Type} (L_small : L_small_t R) (L_exampleHoldsq : L_exampleHoldsq_t R) (tagtree_New : tagtree_New_t R) (tagtree_Tree_Set : tagtree_Tree_Set_t R) (bitio_NewWriter : bitio_NewWriter_t R) (tagtree_Tree_Encode : tagtree_Tree_Encode_t R) (bitio_Writer_Len : bitio_Writer_Len_t R) (L_TagtreeOnce_l0 : L_TagtreeOnce_l0_t R) (L_TagtreeOnce_p1 : L_TagtreeOnce_p1_t R) (L_TagtreeOnce_l2 : L_TagtreeOnce_l2_t R) (L_TagtreeOnce_p3 : L_TagtreeOnce_p3_t R) (L_TagtreeOnce_p4 : L_TagtreeOnce_p4_t R) (k n : Nat) (q162 : Oa) (l163 : Nat) (c164 : Nat) (p165 : Oa) (q166 : Oa) (l167 : Nat) (c168 : Nat) (n169 : Int) (n170 : Int) (H : Heap) (K : Xit → Env → Heap → Option R) : evJ (L_TagtreeOnce_Ct L_small L_exampleHoldsq tagtree_New tagtree_Tree_Set bitio_NewWriter tagtree_Tree_Encode bitio_Writer_Len) (L_TagtreeOnce_Jt k L_TagtreeOnce_l0 L_TagtreeOnce_p1 L_TagtreeOnce_l2 L_TagtreeOnce_p3 L_TagtreeOnce_p4) L_TagtreeOnce_i0 (List.zip [2, 7, 30, 31, 32] [.slice q162 l163 c164, .pointer p165, .slice q166 l167 c168, .int .i64 n169, .int .i64 n170]) H (fun x e' H' => match x with | .normal => L_TagtreeOnce_aa0 L_TagtreeOnce_l0 n ((clean e' [2, 7, 30, 31, 32]).map (·.2)) H' K | x => K x (clean e' ((⟨[], [(0, [2, 7])], []⟩ : Out).of x)) H') = L_TagtreeOnce_l0_b L_TagtreeOnce_p1 (L_TagtreeOnce_l0 (fun q1748 l1749 c1750 p1751 H => K (.exit 0) [(2, .slice q1748 l1749 c1750), (7, .pointer p1751)] H) n) (fun q1748 l1749 c1750 p1751 H => K (.exit 0) [(2, .slice q1748 l1749 c1750), (7, .pointer p1751)] H) k q162 l163 c164 p165 q166 l167 c168 n169 n170 H := by kernel_rfl
theorem L_TagtreeOnce_j0 {R : Type} (k : Nat) : JS Try.prog 103 (L_TagtreeOnce_a0 R k k) [2, 7, 30, 31, 32] ⟨[], [(0, [2, 7])], []⟩ (.loop (sel [1, 1, 1, 1, 0, 1, 0, 0] (Try.f5.body.getD .skip))) :=
  loop_ok (nt := 103) (c := (sel [1, 1, 1, 1, 0, 1, 0, 0] (Try.f5.body.getD .skip))) (C := L_TagtreeOnce_C R k) (an := An) (t := (.seq (.reg [2, 7, 30, 31, 32, 33] []) (.seq (.cond .leaf .leaf) (.seq (.opq 1 [2, 7, 30, 31, 32] ⟨[2, 7, 30, 31, 32], [], []⟩ (.node (.seq (.reg [2, 7, 10, 30, 31, 32] []) (.seq (.reg [2, 7, 10, 30, 31, 32, 38] []) (.cond (.reg [2, 7, 30, 31, 32] []) .leaf))))) (.reg [2, 7, 30, 31, 32] []))))) (ic := L_TagtreeOnce_i0) (L_TagtreeOnce_S R k) (L_TagtreeOnce_J R k) (by kernel_rfl) (And.intro True.intro (And.intro (And.intro True.intro True.intro) (And.intro (L_TagtreeOnce_j1 k) True.intro))) (L_TagtreeOnce_a0 R k) (fun vals H K => by unfold L_TagtreeOnce_a0 L_TagtreeOnce_aa0; split <;> rfl)
    (fun n vals H K r h => by
      unfold L_TagtreeOnce_a0 L_TagtreeOnce_aa0 at h
      split at h <;> first | (cases h; done) | exact Eq.trans (L_TagtreeOnce_e0 (L_small k) L_exampleHoldsq (tagtree_New k) (tagtree_Tree_Set k) bitio_NewWriter (tagtree_Tree_Encode k) bitio_Writer_Len (L_TagtreeOnce_l0 k) (L_TagtreeOnce_p1 k) (L_TagtreeOnce_l2 k) (L_TagtreeOnce_p3 k) (L_TagtreeOnce_p4 k) k n _ _ _ _ _ _ _ _ _ H K) h) k
def L_TagtreeOnce_ca {R : Type} (f : L_TagtreeOnce_t R) (args : List Value) (H : Heap) (K : Value → Heap → Option R) : Option R :=
  match args with
  | [.int .i64 n150, .int .i64 n151, .slice q152 l153 c154] => f n150 n151 q152 l153 c154 H (fun t1785 H => K (.bool t1785) H)
  | _ => none
def L_TagtreeOnce_c (R : Type) (k : Nat) (args : List Value) (H : Heap) (K : Value → Heap → Option R) : Option R := L_TagtreeOnce_ca (L_TagtreeOnce k) args H K
theorem L_TagtreeOnce_e {R : Type} (L_small : L_small_t R) (L_exampleHoldsq : L_exampleHoldsq_t R) (tagtree_New : tagtree_New_t R) (tagtree_Tree_Set : tagtree_Tree_Set_t R) (bitio_NewWriter : bitio_NewWriter_t R) (tagtree_Tree_Encode : tagtree_Tree_Encode_t R) (bitio_Writer_Len : bitio_Writer_Len_t R) (L_TagtreeOnce_l0 : L_TagtreeOnce_l0_t R) (L_TagtreeOnce_p1 : L_TagtreeOnce_p1_t R) (L_TagtreeOnce_l2 : L_TagtreeOnce_l2_t R) (L_TagtreeOnce_p3 : L_TagtreeOnce_p3_t R) (L_TagtreeOnce_p4 : L_TagtreeOnce_p4_t R) (k : Nat) (n150 : Int) (n151 : Int) (q152 : Oa) (l153 : Nat) (c154 : Nat) (H : Heap) (K : Value → Heap → Option R) : evF (L_TagtreeOnce_Ct L_small L_exampleHoldsq tagtree_New tagtree_Tree_Set bitio_NewWriter tagtree_Tree_Encode bitio_Writer_Len) (L_TagtreeOnce_Jt k L_TagtreeOnce_l0 L_TagtreeOnce_p1 L_TagtreeOnce_l2 L_TagtreeOnce_p3 L_TagtreeOnce_p4) L_TagtreeOnce_f [.int .i64 n150, .int .i64 n151, .slice q152 l153 c154] H K = L_TagtreeOnce_b L_small L_exampleHoldsq tagtree_New L_TagtreeOnce_l0 bitio_NewWriter L_TagtreeOnce_l2 k n150 n151 q152 l153 c154 H (fun t1785 H => K (.bool t1785) H) := by kernel_rfl
theorem L_TagtreeOnce_cs (R : Type) (k : Nat) : ∀ args H K r, L_TagtreeOnce_c R k args H K = some r → ∃ v H', Tri Try.prog 5 args H v H' ∧ K v H' = some r := by
  intro args H K r h
  unfold L_TagtreeOnce_c L_TagtreeOnce_ca at h
  split at h
  · exact evF_ok (C := L_TagtreeOnce_C R k) (an := An) (t := L_TagtreeOnce_at) (fn := Try.f5) (c := (Try.f5.body.getD .skip)) (ifn := L_TagtreeOnce_f) (L_TagtreeOnce_S R k) (L_TagtreeOnce_J R k) Try.func5 (by kernel_rfl) (by kernel_rfl) (And.intro True.intro (And.intro (And.intro True.intro (And.intro (And.intro True.intro True.intro) True.intro)) (And.intro True.intro (And.intro (And.intro True.intro (And.intro (And.intro True.intro True.intro) True.intro)) (And.intro (And.intro True.intro (L_TagtreeOnce_j0 k)) (And.intro True.intro (And.intro (And.intro True.intro (L_TagtreeOnce_j2 k)) (And.intro True.intro True.intro)))))))) rfl (Eq.trans (L_TagtreeOnce_e (L_small k) L_exampleHoldsq (tagtree_New k) (tagtree_Tree_Set k) bitio_NewWriter (tagtree_Tree_Encode k) bitio_Writer_Len (L_TagtreeOnce_l0 k) (L_TagtreeOnce_p1 k) (L_TagtreeOnce_l2 k) (L_TagtreeOnce_p3 k) (L_TagtreeOnce_p4 k) k _ _ _ _ _ H K) h)
  · cases h
end Go.Proofs.Ytblkejnciinaeaa.Sh
