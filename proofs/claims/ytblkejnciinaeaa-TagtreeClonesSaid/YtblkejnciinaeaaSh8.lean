/- Lean functions that stand for Go's, over an explicit heap, and the proofs that they do (written by this claim's program shallow.py). -/
import Derived.Test.YtblkejnciinaeaaSh0
set_option maxRecDepth 100000
set_option linter.unusedVariables false
set_option linter.unusedSimpArgs false
namespace Go.Proofs.Ytblkejnciinaeaa.Sh
open Go.Proofs.Ytblkejnciinaeaa.FW
/-! ### tagtree_Tree_Clone: function 35 -/
abbrev tagtree_Tree_Clone_l0_t (R : Type) : Type := (Oa → Heap → Option R) → Nat → Oa → Oa → Nat → Nat → Int → Int → Heap → Option R
def tagtree_Tree_Clone_l0_b {R : Type} (rec : Oa → Oa → Nat → Nat → Int → Int → Heap → Option R) (KE0 : Oa → Heap → Option R) (k : Nat) (p1243 : Oa) (q1244 : Oa) (l1245 : Nat) (c1246 : Nat) (n1247 : Int) (n1248 : Int) (H : Heap) : Option R :=
bif decide (n1248 < n1247) then (hidx q1244 l1245 n1248 3 fun p1249 =>
ldI .i64 H (pad p1249 0) fun n1250 =>
ldI .i64 H (pad p1249 1) fun n1251 =>
ldL H (pad p1249 2) fun q1252 l1253 c1254 =>
hal H [.int .i64 0, .int .i64 0, .slice none 0 0] fun p1255 H1256 =>
hst H1256 p1255 [.int .i64 n1250, .int .i64 n1251, .slice q1252 l1253 c1254] fun H1257 =>
hnil p1243 fun p1258 =>
hfad 0 p1258 fun p1259 =>
ldL H1257 p1259 fun q1260 l1261 c1262 =>
hfad 0 p1255 fun p1263 =>
ldI .i64 H1257 p1263 fun n1264 =>
hfad 1 p1255 fun p1265 =>
ldI .i64 H1257 p1265 fun n1266 =>
hfad 2 p1255 fun p1267 =>
ldL H1257 p1267 fun q1268 l1269 c1270 =>
hapnS 3 24 H1257 none 0 0 q1268 l1269 fun q1271 l1272 c1273 H1274 =>
hal H1274 [.int .i64 n1264, .int .i64 n1266, .slice q1271 l1272 c1273] fun p1275 H1276 =>
happS 3 40 H1276 q1260 l1261 c1262 p1275 1 fun q1277 l1278 c1279 H1280 =>
hnil p1243 fun p1281 =>
hfad 0 p1281 fun p1282 =>
hst1 H1280 p1282 (.slice q1277 l1278 c1279) fun H1283 =>
rec p1243 q1244 l1245 c1246 n1247 (IntKind.wrap .i64 (n1248 + 1)) H1283)
 else (KE0 p1243 H)
def tagtree_Tree_Clone_l0 {R : Type} (k : Nat) (KE0 : Oa → Heap → Option R) : Nat → Oa → Oa → Nat → Nat → Int → Int → Heap → Option R
  | 0, _, _, _, _, _, _, _ => none
  | n + 1, p1243, q1244, l1245, c1246, n1247, n1248, H => tagtree_Tree_Clone_l0_b (tagtree_Tree_Clone_l0 k KE0 n) KE0 k p1243 q1244 l1245 c1246 n1247 n1248 H

abbrev tagtree_Tree_Clone_t (R : Type) : Type := Oa → Heap → (Oa → Heap → Option R) → Option R

def tagtree_Tree_Clone_b {R : Type} (tagtree_Tree_ok : tagtree_Tree_ok_t R) (tagtree_Tree_Clone_l0 : tagtree_Tree_Clone_l0_t R) (k : Nat) (p1228 : Oa) (H : Heap) (K : Oa → Heap → Option R) : Option R :=
tagtree_Tree_ok p1228 H fun t1229 =>
bif (!t1229) then (K none H)
 else (hnil p1228 fun p1230 =>
hfad 1 p1230 fun p1231 =>
ldB H p1231 fun t1232 =>
hnil p1228 fun p1233 =>
hfad 2 p1233 fun p1234 =>
ldB H p1234 fun t1235 =>
hal H [.slice none 0 0, .bool t1232, .bool t1235] fun p1236 H1237 =>
hnil p1228 fun p1238 =>
hfad 0 p1238 fun p1239 =>
ldL H1237 p1239 fun q1240 l1241 c1242 =>
tagtree_Tree_Clone_l0 (fun p1285 H1286 =>
K p1285 H1286) k p1236 q1240 l1241 c1242 ((l1241 : Nat) : Int) 0 H1237)

def tagtree_Tree_Clone {R : Type} (k : Nat) (p1228 : Oa) (H : Heap) (K : Oa → Heap → Option R) : Option R := tagtree_Tree_Clone_b tagtree_Tree_ok (tagtree_Tree_Clone_l0 k) k p1228 H K

def tagtree_Tree_Clone_Ct {R : Type} (tagtree_Tree_ok : tagtree_Tree_ok_t R) : Tab R := tcons 38 (tagtree_Tree_ok_ca tagtree_Tree_ok) <| fun _ _ _ _ => none
def tagtree_Tree_Clone_C (R : Type) (k : Nat) : Tab R := tagtree_Tree_Clone_Ct tagtree_Tree_ok
theorem tagtree_Tree_Clone_S (R : Type) (k : Nat) : CSound Try.prog (tagtree_Tree_Clone_C R k) := csound_cons (tagtree_Tree_ok_cs R k) <| csound_nil
def tagtree_Tree_Clone_aa0 {R : Type} (f : tagtree_Tree_Clone_l0_t R) (n : Nat) (vals : List Value) (H : Heap) (K : Xit → Env → Heap → Option R) : Option R :=
  match vals with
  | [.pointer p1243, .slice q1244 l1245 c1246, .int .i64 n1247, .int .i64 n1248] => f (fun p1608 H => K (.exit 0) [(3, .pointer p1608)] H) n p1243 q1244 l1245 c1246 n1247 n1248 H
  | _ => none
def tagtree_Tree_Clone_a0 (R : Type) (k n : Nat) (vals : List Value) (H : Heap) (K : Xit → Env → Heap → Option R) : Option R := tagtree_Tree_Clone_aa0 (tagtree_Tree_Clone_l0 k) n vals H K
def tagtree_Tree_Clone_Jt {R : Type} (k : Nat) (tagtree_Tree_Clone_l0 : tagtree_Tree_Clone_l0_t R) : JTab R := tcons 0 (tagtree_Tree_Clone_aa0 tagtree_Tree_Clone_l0 k) <| fun _ _ _ _ => none
def tagtree_Tree_Clone_J (R : Type) (k : Nat) : JTab R := tagtree_Tree_Clone_Jt k (tagtree_Tree_Clone_l0 k)
def tagtree_Tree_Clone_at : AT := (.seq (.reg [0] []) (.seq (.seq (.reg [0, 8] []) (.cond (.seq (.reg [2] []) .leaf) .leaf)) (.seq (.reg [0, 3] [[], [0], [0, 1], [0, 1, 2], [], [4], [4, 5], [4, 5, 6], [0, 1, 2, 3, 4, 5, 6, 7], [0, 1, 2, 3, 4, 5, 6, 7, 8], [0, 1, 2, 3, 4, 5, 6, 7, 8, 9]]) (.seq (.seq (.reg [3, 22, 23, 24] []) (.node (.opq 0 [3, 22, 23, 24] ⟨[], [(0, [3])], []⟩ (.node (.seq (.reg [3, 22, 23, 24, 25] []) (.seq (.cond .leaf .leaf) (.seq (.node (.seq (.reg [3, 5, 22, 23, 24] []) (.reg [3, 22, 23, 24] [[], [], [1], [1, 2], [1, 2, 3], [], [5], [], [7], [], [9], [9, 10], [5, 6, 7, 8, 9, 10, 11], [5, 6, 7, 8, 9, 10, 11, 12], [1, 2, 3, 4, 5, 6, 7, 8, 9, 10, 11, 12, 13], [0, 1, 2, 3, 4, 5, 6, 7, 8, 9, 10, 11, 12, 13, 14], [0, 1, 2, 3, 4, 5, 6, 7, 8, 9, 10, 11, 12, 13, 14, 15], [0, 1, 2, 3, 4, 5, 6, 7, 8, 9, 10, 11, 12, 13, 14, 15, 16]]))) (.reg [3, 22, 23, 24] [])))))))) (.seq (.reg [2] []) .leaf)))))
def tagtree_Tree_Clone_i0 : IC := (.seq (.reg [⟨some 25, .cmp .lss (.t 24) (.t 23), none⟩] [3, 22, 23, 24, 25]) (.seq (.cond (.t 25) .skip (.exit 0)) (.seq (.block 1 (.seq (.reg [⟨some 26, .ids 3 (.t 22) (.t 24), none⟩,
 ⟨some 27, .ld (.agg [(.int .i64), (.int .i64), .slc]) (.t 26), none⟩,
 ⟨some 5, .alc [.int .i64 0, .int .i64 0, .slice none 0 0], none⟩,
 ⟨none, .st 3 (.t 5) (.t 27), none⟩] [3, 5, 22, 23, 24]) (.reg [⟨some 28, .mov (.t 3), none⟩,
 ⟨some 29, .mov (.t 3), none⟩,
 ⟨some 30, .nilc (.t 29), none⟩,
 ⟨some 31, .fad 0 (.t 30), none⟩,
 ⟨some 32, .ld (.sc .slc) (.t 31), none⟩,
 ⟨some 33, .fad 0 (.t 5), none⟩,
 ⟨some 34, .ld (.sc (.int .i64)) (.t 33), none⟩,
 ⟨some 35, .fad 1 (.t 5), none⟩,
 ⟨some 36, .ld (.sc (.int .i64)) (.t 35), none⟩,
 ⟨some 37, .fad 2 (.t 5), none⟩,
 ⟨some 38, .ld (.sc .slc) (.t 37), none⟩,
 ⟨some 39, .apn [.int .i64 0, .int .i64 0, .bool false] 24 (.c (Go.Value.slice none 0 0)) (.t 38), none⟩,
 ⟨some 40, .bld [.int .i64 0, .int .i64 0, .slice none 0 0] [(0, 1, (.t 34)), (1, 1, (.t 36)), (2, 1, (.t 39))], none⟩,
 ⟨some 41, .bls 1 [.int .i64 0, .int .i64 0, .slice none 0 0] [(0, 3, (.t 40))], none⟩,
 ⟨some 42, .app [.int .i64 0, .int .i64 0, .slice none 0 0] 40 (.t 32) (.t 41), none⟩,
 ⟨some 43, .nilc (.t 28), none⟩,
 ⟨some 44, .fad 0 (.t 43), none⟩,
 ⟨none, .st 1 (.t 44) (.t 42), none⟩] [3, 22, 23, 24]))) (.reg [⟨some 45, .bin .add .i64 (.t 24) (.c (Go.Value.int Go.IntKind.i64 1)), none⟩,
 ⟨some 24, .mov (.t 45), none⟩] [3, 22, 23, 24]))))
def tagtree_Tree_Clone_f : IFn := ⟨47, [.t 2], (.seq (.reg [⟨some 2, .mov (.c (Go.Value.pointer none)), none⟩] [0]) (.seq (.seq (.reg [⟨some 6, .mov (.t 0), none⟩,
 ⟨some 7, .call 38 [(.t 6)] (.one (.sc .bool)), none⟩,
 ⟨some 8, .lnot (.t 7), none⟩] [0, 8]) (.cond (.t 8) (.seq (.reg [⟨some 2, .mov (.c (Go.Value.pointer none)), none⟩] [2]) .ret) .skip)) (.seq (.reg [⟨some 9, .mov (.t 0), none⟩,
 ⟨some 10, .nilc (.t 9), none⟩,
 ⟨some 11, .fad 1 (.t 10), none⟩,
 ⟨some 12, .ld (.sc .bool) (.t 11), none⟩,
 ⟨some 13, .mov (.t 0), none⟩,
 ⟨some 14, .nilc (.t 13), none⟩,
 ⟨some 15, .fad 2 (.t 14), none⟩,
 ⟨some 16, .ld (.sc .bool) (.t 15), none⟩,
 ⟨some 17, .bld [.slice none 0 0, .bool false, .bool false] [(1, 1, (.t 12)), (2, 1, (.t 16))], none⟩,
 ⟨some 18, .box (.t 17), none⟩,
 ⟨some 3, .mov (.t 18), none⟩] [0, 3]) (.seq (.seq (.reg [⟨some 19, .mov (.t 0), none⟩,
 ⟨some 20, .nilc (.t 19), none⟩,
 ⟨some 21, .fad 0 (.t 20), none⟩,
 ⟨some 22, .ld (.sc .slc) (.t 21), none⟩,
 ⟨some 23, .len false (.t 22), none⟩,
 ⟨some 24, .mov (.c (Go.Value.int Go.IntKind.i64 0)), none⟩] [3, 22, 23, 24]) (.block 0 (.opq 0 [3, 22, 23, 24] (.loop tagtree_Tree_Clone_i0)))) (.seq (.reg [⟨some 46, .mov (.t 3), none⟩,
 ⟨some 2, .mov (.t 46), none⟩] [2]) .ret)))))⟩
theorem tagtree_Tree_Clone_e0 {R : Type} (tagtree_Tree_ok : tagtree_Tree_ok_t R) (tagtree_Tree_Clone_l0 : tagtree_Tree_Clone_l0_t R) (k n : Nat) (p1243 : Oa) (q1244 : Oa) (l1245 : Nat) (c1246 : Nat) (n1247 : Int) (n1248 : Int) (H : Heap) (K : Xit → Env → Heap → Option R) : evJ (tagtree_Tree_Clone_Ct tagtree_Tree_ok) (tagtree_Tree_Clone_Jt k tagtree_Tree_Clone_l0) tagtree_Tree_Clone_i0 (List.zip [3, 22, 23, 24] [.pointer p1243, .slice q1244 l1245 c1246, .int .i64 n1247, .int .i64 n1248]) H (fun x e' H' => match x with | .normal => tagtree_Tree_Clone_aa0 tagtree_Tree_Clone_l0 n ((clean e' [3, 22, 23, 24]).map (·.2)) H' K | x => K x (clean e' ((⟨[], [(0, [3])], []⟩ : Out).of x)) H') = tagtree_Tree_Clone_l0_b (tagtree_Tree_Clone_l0 (fun p1608 H => K (.exit 0) [(3, .pointer p1608)] H) n) (fun p1608 H => K (.exit 0) [(3, .pointer p1608)] H) k p1243 q1244 l1245 c1246 n1247 n1248 H := by kernel_rfl
theorem tagtree_Tree_Clone_j0 {R : Type} (k : Nat) : JS Try.prog 47 (tagtree_Tree_Clone_a0 R k k) [3, 22, 23, 24] ⟨[], [(0, [3])], []⟩ (.loop (sel [1, 1, 1, 0, 1, 0, 0] (Try.f35.body.getD .skip))) :=
  loop_ok (nt := 47) (c := (sel [1, 1, 1, 0, 1, 0, 0] (Try.f35.body.getD .skip))) (C := tagtree_Tree_Clone_C R k) (an := An) (t := (.seq (.reg [3, 22, 23, 24, 25] []) (.seq (.cond .leaf .leaf) (.seq (.node (.seq (.reg [3, 5, 22, 23, 24] []) (.reg [3, 22, 23, 24] [[], [], [1], [1, 2], [1, 2, 3], [], [5], [], [7], [], [9], [9, 10], [5, 6, 7, 8, 9, 10, 11], [5, 6, 7, 8, 9, 10, 11, 12], [1, 2, 3, 4, 5, 6, 7, 8, 9, 10, 11, 12, 13], [0, 1, 2, 3, 4, 5, 6, 7, 8, 9, 10, 11, 12, 13, 14], [0, 1, 2, 3, 4, 5, 6, 7, 8, 9, 10, 11, 12, 13, 14, 15], [0, 1, 2, 3, 4, 5, 6, 7, 8, 9, 10, 11, 12, 13, 14, 15, 16]]))) (.reg [3, 22, 23, 24] []))))) (ic := tagtree_Tree_Clone_i0) (tagtree_Tree_Clone_S R k) (tagtree_Tree_Clone_J R k) (by kernel_rfl) (And.intro True.intro (And.intro (And.intro True.intro True.intro) (And.intro (And.intro True.intro True.intro) True.intro))) (tagtree_Tree_Clone_a0 R k) (fun vals H K => by unfold tagtree_Tree_Clone_a0 tagtree_Tree_Clone_aa0; split <;> rfl)
    (fun n vals H K r h => by
      unfold tagtree_Tree_Clone_a0 tagtree_Tree_Clone_aa0 at h
      split at h <;> first | (cases h; done) | exact Eq.trans (tagtree_Tree_Clone_e0 tagtree_Tree_ok (tagtree_Tree_Clone_l0 k) k n _ _ _ _ _ _ H K) h) k
def tagtree_Tree_Clone_ca {R : Type} (f : tagtree_Tree_Clone_t R) (args : List Value) (H : Heap) (K : Value → Heap → Option R) : Option R :=
  match args with
  | [.pointer p1228] => f p1228 H (fun p1609 H => K (.pointer p1609) H)
  | _ => none
def tagtree_Tree_Clone_c (R : Type) (k : Nat) (args : List Value) (H : Heap) (K : Value → Heap → Option R) : Option R := tagtree_Tree_Clone_ca (tagtree_Tree_Clone k) args H K
theorem tagtree_Tree_Clone_e {R : Type} (tagtree_Tree_ok : tagtree_Tree_ok_t R) (tagtree_Tree_Clone_l0 : tagtree_Tree_Clone_l0_t R) (k : Nat) (p1228 : Oa) (H : Heap) (K : Value → Heap → Option R) : evF (tagtree_Tree_Clone_Ct tagtree_Tree_ok) (tagtree_Tree_Clone_Jt k tagtree_Tree_Clone_l0) tagtree_Tree_Clone_f [.pointer p1228] H K = tagtree_Tree_Clone_b tagtree_Tree_ok tagtree_Tree_Clone_l0 k p1228 H (fun p1609 H => K (.pointer p1609) H) := by kernel_rfl
theorem tagtree_Tree_Clone_cs (R : Type) (k : Nat) : ∀ args H K r, tagtree_Tree_Clone_c R k args H K = some r → ∃ v H', Tri Try.prog 35 args H v H' ∧ K v H' = some r := by
  intro args H K r h
  unfold tagtree_Tree_Clone_c tagtree_Tree_Clone_ca at h
  split at h
  · exact evF_ok (C := tagtree_Tree_Clone_C R k) (an := An) (t := tagtree_Tree_Clone_at) (fn := Try.f35) (c := (Try.f35.body.getD .skip)) (ifn := tagtree_Tree_Clone_f) (tagtree_Tree_Clone_S R k) (tagtree_Tree_Clone_J R k) Try.func35 (by kernel_rfl) (by kernel_rfl) (And.intro True.intro (And.intro (And.intro True.intro (And.intro (And.intro True.intro True.intro) True.intro)) (And.intro True.intro (And.intro (And.intro True.intro (tagtree_Tree_Clone_j0 k)) (And.intro True.intro True.intro))))) rfl (Eq.trans (tagtree_Tree_Clone_e tagtree_Tree_ok (tagtree_Tree_Clone_l0 k) k _ H K) h)
  · cases h
end Go.Proofs.Ytblkejnciinaeaa.Sh
