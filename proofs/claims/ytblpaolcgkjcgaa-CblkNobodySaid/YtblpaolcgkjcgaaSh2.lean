/- Lean functions that stand for Go's, over an explicit heap, and the proofs that they do (written by this claim's program shallow.py). -/
import Derived.Test.YtblpaolcgkjcgaaSh0
import Derived.Test.YtblpaolcgkjcgaaSh1
set_option maxRecDepth 100000
set_option linter.unusedVariables false
set_option linter.unusedSimpArgs false
namespace Go.Proofs.Ytblpaolcgkjcgaa.Sh
open Go.Proofs.Ytblpaolcgkjcgaa.FW
/-! ### R02_SameInts: function 19 -/
def R02_SameInts_l0_b {R : Type} (rec : Option Addr → Nat → Nat → Option Addr → Nat → Nat → Int → Heap → Option R) (KE0 : Unit → Option R) (KR : Bool → Option R) (k : Nat) (q482 : Option Addr) (l483 : Nat) (c484 : Nat) (q485 : Option Addr) (l486 : Nat) (c487 : Nat) (n488 : Int) (H : Heap) : Option R :=
bif decide (n488 < ((l483 : Nat) : Int)) then (hidx q482 l483 n488 1 fun p489 =>
ldI .i64 H p489 fun n490 =>
hidx q485 l486 n488 1 fun p491 =>
ldI .i64 H p491 fun n492 =>
bif (n490 != n492) then (KR false)
 else (rec q482 l483 c484 q485 l486 c487 (IntKind.wrap .i64 (n488 + 1)) H))
 else (KE0 ())
def R02_SameInts_l0 {R : Type} (k : Nat) (KE0 : Unit → Option R) (KR : Bool → Option R) : Nat → Option Addr → Nat → Nat → Option Addr → Nat → Nat → Int → Heap → Option R
  | 0, _, _, _, _, _, _, _, _ => none
  | n + 1, q482, l483, c484, q485, l486, c487, n488, H => R02_SameInts_l0_b (R02_SameInts_l0 k KE0 KR n) KE0 KR k q482 l483 c484 q485 l486 c487 n488 H

def R02_SameInts_b {R : Type} (R02_SameInts_l0 : (Unit → Option R) → (Bool → Option R) → Nat → Option Addr → Nat → Nat → Option Addr → Nat → Nat → Int → Heap → Option R) (k : Nat) (q476 : Option Addr) (l477 : Nat) (c478 : Nat) (q479 : Option Addr) (l480 : Nat) (c481 : Nat) (H : Heap) (K : Bool → Option R) : Option R :=
bif (((l477 : Nat) : Int) != ((l480 : Nat) : Int)) then (K false)
 else (R02_SameInts_l0 (fun (_ : Unit) =>
K true) (fun t494 =>
K t494) k q476 l477 c478 q479 l480 c481 0 H)

def R02_SameInts {R : Type} (k : Nat) (q476 : Option Addr) (l477 : Nat) (c478 : Nat) (q479 : Option Addr) (l480 : Nat) (c481 : Nat) (H : Heap) (K : Bool → Option R) : Option R := R02_SameInts_b (R02_SameInts_l0 k) k q476 l477 c478 q479 l480 c481 H K

def R02_SameInts_Ct {R : Type} : Tab R := fun _ _ _ _ => none
def R02_SameInts_C (R : Type) (k : Nat) : Tab R := R02_SameInts_Ct
theorem R02_SameInts_S (R : Type) (k : Nat) : CSound Try.prog (R02_SameInts_C R k) := csound_nil
def R02_SameInts_aa0 {R : Type} (f : (Unit → Option R) → (Bool → Option R) → Nat → Option Addr → Nat → Nat → Option Addr → Nat → Nat → Int → Heap → Option R) (n : Nat) (vals : List Value) (H : Heap) (K : Xit → Env → Heap → Option R) : Option R :=
  match vals with
  | [.slice q482 l483 c484, .slice q485 l486 c487, .int .i64 n488] => f (fun _ => K (.exit 0) [] H) (fun t1161 => K .ret [(4, .bool t1161)] H) n q482 l483 c484 q485 l486 c487 n488 H
  | _ => none
def R02_SameInts_a0 (R : Type) (k n : Nat) (vals : List Value) (H : Heap) (K : Xit → Env → Heap → Option R) : Option R := R02_SameInts_aa0 (R02_SameInts_l0 k) n vals H K
def R02_SameInts_Jt {R : Type} (k : Nat) (R02_SameInts_l0 : (Unit → Option R) → (Bool → Option R) → Nat → Option Addr → Nat → Nat → Option Addr → Nat → Nat → Int → Heap → Option R) : JTab R := tcons 0 (R02_SameInts_aa0 R02_SameInts_l0 k) <| fun _ _ _ _ => none
def R02_SameInts_J (R : Type) (k : Nat) : JTab R := R02_SameInts_Jt k (R02_SameInts_l0 k)
def R02_SameInts_at : AT := (.seq (.reg [0, 1] []) (.seq (.seq (.reg [0, 1, 10] []) (.cond (.seq (.reg [4] []) .leaf) .leaf)) (.seq (.seq (.reg [0, 1, 5] []) (.node (.opq 0 [0, 1, 5] ⟨[], [(0, [])], [4]⟩ (.node (.seq (.seq (.reg [0, 1, 5, 14] []) (.cond .leaf .leaf)) (.seq (.node (.seq (.reg [0, 1, 5, 25] [[], [], [0, 1], [0, 1, 2], [], [], [4, 5], [4, 5, 6], [0, 1, 2, 3, 4, 5, 6, 7]]) (.cond (.seq (.reg [4] []) .leaf) .leaf))) (.reg [0, 1, 5] []))))))) (.seq (.reg [4] []) .leaf))))
def R02_SameInts_i0 : IC := (.seq (.seq (.reg [⟨some 11, .mov (.t 5), none⟩,
 ⟨some 12, .mov (.t 0), none⟩,
 ⟨some 13, .len false (.t 12), none⟩,
 ⟨some 14, .cmp .lss (.t 11) (.t 13), none⟩] [0, 1, 5, 14]) (.cond (.t 14) .skip (.exit 0))) (.seq (.block 1 (.seq (.reg [⟨some 17, .mov (.t 0), none⟩,
 ⟨some 18, .mov (.t 5), none⟩,
 ⟨some 19, .ids 1 (.t 17) (.t 18), none⟩,
 ⟨some 20, .ld (.sc (.int .i64)) (.t 19), none⟩,
 ⟨some 21, .mov (.t 1), none⟩,
 ⟨some 22, .mov (.t 5), none⟩,
 ⟨some 23, .ids 1 (.t 21) (.t 22), none⟩,
 ⟨some 24, .ld (.sc (.int .i64)) (.t 23), none⟩,
 ⟨some 25, .cmp .neq (.t 20) (.t 24), none⟩] [0, 1, 5, 25]) (.cond (.t 25) (.seq (.reg [⟨some 4, .mov (.c (Go.Value.bool false)), none⟩] [4]) .ret) .skip))) (.reg [⟨some 15, .mov (.t 5), none⟩,
 ⟨some 16, .bin .add .i64 (.t 15) (.c (Go.Value.int Go.IntKind.i64 1)), none⟩,
 ⟨some 5, .mov (.t 16), none⟩] [0, 1, 5])))
def R02_SameInts_f : IFn := ⟨26, [.t 4], (.seq (.reg [⟨some 4, .mov (.c (Go.Value.bool false)), none⟩] [0, 1]) (.seq (.seq (.reg [⟨some 6, .mov (.t 0), none⟩,
 ⟨some 7, .len false (.t 6), none⟩,
 ⟨some 8, .mov (.t 1), none⟩,
 ⟨some 9, .len false (.t 8), none⟩,
 ⟨some 10, .cmp .neq (.t 7) (.t 9), none⟩] [0, 1, 10]) (.cond (.t 10) (.seq (.reg [⟨some 4, .mov (.c (Go.Value.bool false)), none⟩] [4]) .ret) .skip)) (.seq (.seq (.reg [⟨some 5, .mov (.c (Go.Value.int Go.IntKind.i64 0)), none⟩] [0, 1, 5]) (.block 0 (.opq 0 [0, 1, 5] (.loop R02_SameInts_i0)))) (.seq (.reg [⟨some 4, .mov (.c (Go.Value.bool true)), none⟩] [4]) .ret))))⟩
theorem R02_SameInts_e0 {R : Type} (R02_SameInts_l0 : (Unit → Option R) → (Bool → Option R) → Nat → Option Addr → Nat → Nat → Option Addr → Nat → Nat → Int → Heap → Option R) (k n : Nat) (q482 : Option Addr) (l483 : Nat) (c484 : Nat) (q485 : Option Addr) (l486 : Nat) (c487 : Nat) (n488 : Int) (H : Heap) (K : Xit → Env → Heap → Option R) : evJ (R02_SameInts_Ct) (R02_SameInts_Jt k R02_SameInts_l0) R02_SameInts_i0 (List.zip [0, 1, 5] [.slice q482 l483 c484, .slice q485 l486 c487, .int .i64 n488]) H (fun x e' H' => match x with | .normal => R02_SameInts_aa0 R02_SameInts_l0 n ((clean e' [0, 1, 5]).map (·.2)) H' K | x => K x (clean e' ((⟨[], [(0, [])], [4]⟩ : Out).of x)) H') = R02_SameInts_l0_b (R02_SameInts_l0 (fun _ => K (.exit 0) [] H) (fun t1161 => K .ret [(4, .bool t1161)] H) n) (fun _ => K (.exit 0) [] H) (fun t1161 => K .ret [(4, .bool t1161)] H) k q482 l483 c484 q485 l486 c487 n488 H := by kernel_rfl
theorem R02_SameInts_j0 {R : Type} (k : Nat) : JS Try.prog 26 (R02_SameInts_a0 R k k) [0, 1, 5] ⟨[], [(0, [])], [4]⟩ (.loop (sel [1, 1, 0, 1, 0, 0] (Try.f19.body.getD .skip))) :=
  loop_ok (nt := 26) (c := (sel [1, 1, 0, 1, 0, 0] (Try.f19.body.getD .skip))) (C := R02_SameInts_C R k) (an := An) (t := (.seq (.seq (.reg [0, 1, 5, 14] []) (.cond .leaf .leaf)) (.seq (.node (.seq (.reg [0, 1, 5, 25] [[], [], [0, 1], [0, 1, 2], [], [], [4, 5], [4, 5, 6], [0, 1, 2, 3, 4, 5, 6, 7]]) (.cond (.seq (.reg [4] []) .leaf) .leaf))) (.reg [0, 1, 5] [])))) (ic := R02_SameInts_i0) (R02_SameInts_S R k) (R02_SameInts_J R k) (by kernel_rfl) (And.intro (And.intro True.intro (And.intro True.intro True.intro)) (And.intro (And.intro True.intro (And.intro (And.intro True.intro True.intro) True.intro)) True.intro)) (R02_SameInts_a0 R k) (fun vals H K => by unfold R02_SameInts_a0 R02_SameInts_aa0; split <;> rfl)
    (fun n vals H K r h => by
      unfold R02_SameInts_a0 R02_SameInts_aa0 at h
      split at h <;> first | (cases h; done) | exact Eq.trans (R02_SameInts_e0 (R02_SameInts_l0 k) k n _ _ _ _ _ _ _ H K) h) k
def R02_SameInts_ca {R : Type} (f : Option Addr → Nat → Nat → Option Addr → Nat → Nat → Heap → (Bool → Option R) → Option R) (args : List Value) (H : Heap) (K : Value → Heap → Option R) : Option R :=
  match args with
  | [.slice q476 l477 c478, .slice q479 l480 c481] => f q476 l477 c478 q479 l480 c481 H (fun t1162 => K (.bool t1162) H)
  | _ => none
def R02_SameInts_c (R : Type) (k : Nat) (args : List Value) (H : Heap) (K : Value → Heap → Option R) : Option R := R02_SameInts_ca (R02_SameInts k) args H K
theorem R02_SameInts_e {R : Type} (R02_SameInts_l0 : (Unit → Option R) → (Bool → Option R) → Nat → Option Addr → Nat → Nat → Option Addr → Nat → Nat → Int → Heap → Option R) (k : Nat) (q476 : Option Addr) (l477 : Nat) (c478 : Nat) (q479 : Option Addr) (l480 : Nat) (c481 : Nat) (H : Heap) (K : Value → Heap → Option R) : evF (R02_SameInts_Ct) (R02_SameInts_Jt k R02_SameInts_l0) R02_SameInts_f [.slice q476 l477 c478, .slice q479 l480 c481] H K = R02_SameInts_b R02_SameInts_l0 k q476 l477 c478 q479 l480 c481 H (fun t1162 => K (.bool t1162) H) := by kernel_rfl
theorem R02_SameInts_cs (R : Type) (k : Nat) : ∀ args H K r, R02_SameInts_c R k args H K = some r → ∃ v H', Tri Try.prog 19 args H v H' ∧ K v H' = some r := by
  intro args H K r h
  unfold R02_SameInts_c R02_SameInts_ca at h
  split at h
  · exact evF_ok (C := R02_SameInts_C R k) (an := An) (t := R02_SameInts_at) (fn := Try.f19) (c := (Try.f19.body.getD .skip)) (ifn := R02_SameInts_f) (R02_SameInts_S R k) (R02_SameInts_J R k) Try.func19 (by kernel_rfl) (by kernel_rfl) (And.intro True.intro (And.intro (And.intro True.intro (And.intro (And.intro True.intro True.intro) True.intro)) (And.intro (And.intro True.intro (R02_SameInts_j0 k)) (And.intro True.intro True.intro)))) rfl (Eq.trans (R02_SameInts_e (R02_SameInts_l0 k) k _ _ _ _ _ _ H K) h)
  · cases h
/-! ### L_exampleHolds: function 14 -/
def L_exampleHolds_p0_b {R : Type} (cblk_Block_Set : Option Addr → Int → Int → Int → Heap → (Int → Heap → Option R) → Option R) (cblk_Block_Mark : Option Addr → Int → Int → Heap → (Int → Heap → Option R) → Option R) (k : Nat) (p177 : Option Addr) (n178 : Int) (H : Heap) (KN : Option Addr → Heap → Option R) (KR : Bool → Heap → Option R) : Option R :=
bif (n178 != 0) then (KR false H)
 else (bif p177.isNone then (KR false H)
 else (cblk_Block_Set p177 1 3 (-2) H fun n179 H180 =>
bif (n179 != 0) then (KR false H180)
 else (cblk_Block_Set p177 0 4 7 H180 fun n181 H182 =>
bif (n181 != 0) then (KR false H182)
 else (cblk_Block_Set p177 2 4 7 H182 fun n183 H184 =>
bif (n183 != 0) then (KR false H184)
 else (cblk_Block_Mark p177 1 3 H184 fun n185 H186 =>
bif (n185 != 0) then (KR false H186)
 else (cblk_Block_Mark p177 0 4 H186 fun n187 H188 =>
bif (n187 != 0) then (KR false H188)
 else (cblk_Block_Mark p177 2 4 H188 fun n189 H190 =>
bif (n189 != 0) then (KR false H190)
 else (KN p177 H190))))))))
def L_exampleHolds_p0 {R : Type} (k : Nat) (p177 : Option Addr) (n178 : Int) (H : Heap) (KN : Option Addr → Heap → Option R) (KR : Bool → Heap → Option R) : Option R := L_exampleHolds_p0_b (cblk_Block_Set k) (cblk_Block_Mark k) k p177 n178 H KN KR

def L_exampleHolds_p1_b {R : Type} (k : Nat) (p206 : Option Addr) (n207 : Int) (n208 : Int) (n209 : Int) (n210 : Int) (n211 : Int) (n212 : Int) (n213 : Int) (n214 : Int) (n215 : Int) (n216 : Int) (n217 : Int) (KN : Option Addr → Option R) (KR : Bool → Option R) : Option R :=
bif (n207 != 2) then (KR false)
 else (bif (n208 != 1) then (KR false)
 else (bif (n209 != 0) then (KR false)
 else (bif (n210 != 1) then (KR false)
 else (bif (n211 != (-1)) then (KR false)
 else (bif (n212 != 0) then (KR false)
 else (bif (n213 != 0) then (KR false)
 else (bif (n214 != 2) then (KR false)
 else (bif (n215 != 0) then (KR false)
 else (bif (n216 != 0) then (KR false)
 else (bif (n217 != 0) then (KR false)
 else (KN p206)))))))))))
def L_exampleHolds_p1 {R : Type} (k : Nat) (p206 : Option Addr) (n207 : Int) (n208 : Int) (n209 : Int) (n210 : Int) (n211 : Int) (n212 : Int) (n213 : Int) (n214 : Int) (n215 : Int) (n216 : Int) (n217 : Int) (KN : Option Addr → Option R) (KR : Bool → Option R) : Option R := L_exampleHolds_p1_b k p206 n207 n208 n209 n210 n211 n212 n213 n214 n215 n216 n217 KN KR

def L_exampleHolds_p2_b {R : Type} (cblk_Raw : Int → Bool → Bool → Bool → Bool → Bool → Heap → (Bool → Heap → Option R) → Option R) (cblk_Segments : Int → Bool → Bool → Bool → Bool → Bool → Heap → (Option Addr → Nat → Nat → Heap → Option R) → Option R) (R02_SameInts : Option Addr → Nat → Nat → Option Addr → Nat → Nat → Heap → (Bool → Option R) → Option R) (k : Nat) (p226 : Option Addr) (n227 : Int) (n228 : Int) (p229 : Option Addr) (H : Heap) (KN : Option Addr → Heap → Option R) (KR : Bool → Heap → Option R) : Option R :=
bif (n227 != 2) then (KR false H)
 else (bif (n228 != 2) then (KR false H)
 else (ldB H (pad p229 0) fun t230 =>
ldB H (pad p229 1) fun t231 =>
ldB H (pad p229 2) fun t232 =>
ldB H (pad p229 3) fun t233 =>
ldB H (pad p229 4) fun t234 =>
cblk_Raw 11 t230 t231 t232 t233 t234 H fun t235 H236 =>
bif (!t235) then (KR false H236)
 else (ldB H236 (pad p229 0) fun t237 =>
ldB H236 (pad p229 1) fun t238 =>
ldB H236 (pad p229 2) fun t239 =>
ldB H236 (pad p229 3) fun t240 =>
ldB H236 (pad p229 4) fun t241 =>
cblk_Raw 12 t237 t238 t239 t240 t241 H236 fun t242 H243 =>
bif t242 then (KR false H243)
 else (ldB H243 (pad p229 0) fun t244 =>
ldB H243 (pad p229 1) fun t245 =>
ldB H243 (pad p229 2) fun t246 =>
ldB H243 (pad p229 3) fun t247 =>
ldB H243 (pad p229 4) fun t248 =>
cblk_Segments 14 t244 t245 t246 t247 t248 H243 fun q249 l250 c251 H252 =>
hal H252 [.int .i64 10, .int .i64 2, .int .i64 1, .int .i64 1] fun p253 H254 =>
R02_SameInts q249 l250 c251 p253 4 4 H254 fun t255 =>
bif (!t255) then (KR false H254)
 else (cblk_Segments 3 false true false false false H254 fun q256 l257 c258 H259 =>
hal H259 [.int .i64 1, .int .i64 1, .int .i64 1] fun p260 H261 =>
R02_SameInts q256 l257 c258 p260 3 3 H261 fun t262 =>
bif (!t262) then (KR false H261)
 else (KN p226 H261))))))
def L_exampleHolds_p2 {R : Type} (k : Nat) (p226 : Option Addr) (n227 : Int) (n228 : Int) (p229 : Option Addr) (H : Heap) (KN : Option Addr → Heap → Option R) (KR : Bool → Heap → Option R) : Option R := L_exampleHolds_p2_b (cblk_Raw k) (cblk_Segments k) (R02_SameInts k) k p226 n227 n228 p229 H KN KR

def L_exampleHolds_b {R : Type} (cblk_New : Int → Int → Heap → (Option Addr → Int → Heap → Option R) → Option R) (L_exampleHolds_p0 : Option Addr → Int → Heap → (Option Addr → Heap → Option R) → (Bool → Heap → Option R) → Option R) (cblk_Block_Neighbors : Option Addr → Int → Int → Bool → Heap → (Int → Int → Int → Option R) → Option R) (cblk_Block_Signs : Option Addr → Int → Int → Bool → Heap → (Int → Int → Option R) → Option R) (L_exampleHolds_p1 : Option Addr → Int → Int → Int → Int → Int → Int → Int → Int → Int → Int → Int → (Option Addr → Option R) → (Bool → Option R) → Option R) (cblk_Pass : Int → (Int → Int → Option R) → Option R) (L_exampleHolds_p2 : Option Addr → Int → Int → Option Addr → Heap → (Option Addr → Heap → Option R) → (Bool → Heap → Option R) → Option R) (cblk_Scan : Int → Int → Heap → (Option Addr → Nat → Nat → Heap → Option R) → Option R) (cblk_Block_Set : Option Addr → Int → Int → Int → Heap → (Int → Heap → Option R) → Option R) (k : Nat) (H : Heap) (K : Bool → Heap → Option R) : Option R :=
cblk_New 3 5 H fun p174 n175 H176 =>
L_exampleHolds_p0 p174 n175 H176 (fun p193 H194 =>
cblk_Block_Neighbors p193 1 4 false H194 fun n195 n196 n197 =>
cblk_Block_Signs p193 1 4 false H194 fun n198 n199 =>
cblk_Block_Neighbors p193 1 3 false H194 fun n200 n201 n202 =>
cblk_Block_Neighbors p193 1 3 true H194 fun n203 n204 n205 =>
L_exampleHolds_p1 p193 n195 n196 n197 n198 n199 n200 n201 n202 n203 n204 n205 (fun p220 =>
cblk_Pass 6 fun n221 n222 =>
hal H194 [.bool false, .bool false, .bool false, .bool false, .bool false] fun p223 H224 =>
hst H224 p223 [.bool true, .bool false, .bool false, .bool false, .bool false] fun H225 =>
L_exampleHolds_p2 p220 n221 n222 p223 H225 (fun p265 H266 =>
cblk_Scan 2 5 H266 fun q267 l268 c269 H270 =>
bif (((l268 : Nat) : Int) == 10) then (cblk_Block_Set p265 3 0 1 H270 fun n271 H272 =>
bif (n271 == 2) then (cblk_Block_Set p265 0 0 1152921504606846976 H272 fun n273 H274 =>
K (n273 == 2) H274)
 else (K false H272))
 else (K false H270)) (fun t275 H276 =>
K t275 H276)) (fun t277 =>
K t277 H194)) (fun t278 H279 =>
K t278 H279)

def L_exampleHolds {R : Type} (k : Nat) (H : Heap) (K : Bool → Heap → Option R) : Option R := L_exampleHolds_b cblk_New (L_exampleHolds_p0 k) (cblk_Block_Neighbors k) (cblk_Block_Signs k) (L_exampleHolds_p1 k) cblk_Pass (L_exampleHolds_p2 k) (cblk_Scan k) (cblk_Block_Set k) k H K

def L_exampleHolds_Ct {R : Type} (cblk_New : Int → Int → Heap → (Option Addr → Int → Heap → Option R) → Option R) (cblk_Block_Set : Option Addr → Int → Int → Int → Heap → (Int → Heap → Option R) → Option R) (cblk_Block_Mark : Option Addr → Int → Int → Heap → (Int → Heap → Option R) → Option R) (cblk_Block_Neighbors : Option Addr → Int → Int → Bool → Heap → (Int → Int → Int → Option R) → Option R) (cblk_Block_Signs : Option Addr → Int → Int → Bool → Heap → (Int → Int → Option R) → Option R) (cblk_Pass : Int → (Int → Int → Option R) → Option R) (cblk_Raw : Int → Bool → Bool → Bool → Bool → Bool → Heap → (Bool → Heap → Option R) → Option R) (cblk_Segments : Int → Bool → Bool → Bool → Bool → Bool → Heap → (Option Addr → Nat → Nat → Heap → Option R) → Option R) (R02_SameInts : Option Addr → Nat → Nat → Option Addr → Nat → Nat → Heap → (Bool → Option R) → Option R) (cblk_Scan : Int → Int → Heap → (Option Addr → Nat → Nat → Heap → Option R) → Option R) : Tab R := tcons 31 (cblk_New_ca cblk_New) <| tcons 42 (cblk_Block_Set_ca cblk_Block_Set) <| tcons 27 (cblk_Block_Mark_ca cblk_Block_Mark) <| tcons 29 (cblk_Block_Neighbors_ca cblk_Block_Neighbors) <| tcons 30 (cblk_Block_Signs_ca cblk_Block_Signs) <| tcons 15 (cblk_Pass_ca cblk_Pass) <| tcons 17 (cblk_Raw_ca cblk_Raw) <| tcons 20 (cblk_Segments_ca cblk_Segments) <| tcons 19 (R02_SameInts_ca R02_SameInts) <| tcons 12 (cblk_Scan_ca cblk_Scan) <| fun _ _ _ _ => none
def L_exampleHolds_C (R : Type) (k : Nat) : Tab R := L_exampleHolds_Ct cblk_New (cblk_Block_Set k) (cblk_Block_Mark k) (cblk_Block_Neighbors k) (cblk_Block_Signs k) cblk_Pass (cblk_Raw k) (cblk_Segments k) (R02_SameInts k) (cblk_Scan k)
theorem L_exampleHolds_S (R : Type) (k : Nat) : CSound Try.prog (L_exampleHolds_C R k) := csound_cons (cblk_New_cs R k) <| csound_cons (cblk_Block_Set_cs R k) <| csound_cons (cblk_Block_Mark_cs R k) <| csound_cons (cblk_Block_Neighbors_cs R k) <| csound_cons (cblk_Block_Signs_cs R k) <| csound_cons (cblk_Pass_cs R k) <| csound_cons (cblk_Raw_cs R k) <| csound_cons (cblk_Segments_cs R k) <| csound_cons (R02_SameInts_cs R k) <| csound_cons (cblk_Scan_cs R k) <| csound_nil
def L_exampleHolds_aa0 {R : Type} (f : Option Addr → Int → Heap → (Option Addr → Heap → Option R) → (Bool → Heap → Option R) → Option R) (n : Nat) (vals : List Value) (H : Heap) (K : Xit → Env → Heap → Option R) : Option R :=
  match vals with
  | [.pointer p177, .int .i64 n178] => f p177 n178 H (fun p1163 H => K .normal [(1, .pointer p1163)] H) (fun t1164 H => K .ret [(0, .bool t1164)] H)
  | _ => none
def L_exampleHolds_a0 (R : Type) (k n : Nat) (vals : List Value) (H : Heap) (K : Xit → Env → Heap → Option R) : Option R := L_exampleHolds_aa0 (L_exampleHolds_p0 k) n vals H K
def L_exampleHolds_aa1 {R : Type} (f : Option Addr → Int → Int → Int → Int → Int → Int → Int → Int → Int → Int → Int → (Option Addr → Option R) → (Bool → Option R) → Option R) (n : Nat) (vals : List Value) (H : Heap) (K : Xit → Env → Heap → Option R) : Option R :=
  match vals with
  | [.pointer p206, .int .i64 n207, .int .i64 n208, .int .i64 n209, .int .i64 n210, .int .i64 n211, .int .i64 n212, .int .i64 n213, .int .i64 n214, .int .i64 n215, .int .i64 n216, .int .i64 n217] => f p206 n207 n208 n209 n210 n211 n212 n213 n214 n215 n216 n217 (fun p1165 => K .normal [(1, .pointer p1165)] H) (fun t1166 => K .ret [(0, .bool t1166)] H)
  | _ => none
def L_exampleHolds_a1 (R : Type) (k n : Nat) (vals : List Value) (H : Heap) (K : Xit → Env → Heap → Option R) : Option R := L_exampleHolds_aa1 (L_exampleHolds_p1 k) n vals H K
def L_exampleHolds_aa2 {R : Type} (f : Option Addr → Int → Int → Option Addr → Heap → (Option Addr → Heap → Option R) → (Bool → Heap → Option R) → Option R) (n : Nat) (vals : List Value) (H : Heap) (K : Xit → Env → Heap → Option R) : Option R :=
  match vals with
  | [.pointer p226, .int .i64 n227, .int .i64 n228, .pointer p229] => f p226 n227 n228 p229 H (fun p1167 H => K .normal [(1, .pointer p1167)] H) (fun t1168 H => K .ret [(0, .bool t1168)] H)
  | _ => none
def L_exampleHolds_a2 (R : Type) (k n : Nat) (vals : List Value) (H : Heap) (K : Xit → Env → Heap → Option R) : Option R := L_exampleHolds_aa2 (L_exampleHolds_p2 k) n vals H K
def L_exampleHolds_Jt {R : Type} (k : Nat) (L_exampleHolds_p0 : Option Addr → Int → Heap → (Option Addr → Heap → Option R) → (Bool → Heap → Option R) → Option R) (L_exampleHolds_p1 : Option Addr → Int → Int → Int → Int → Int → Int → Int → Int → Int → Int → Int → (Option Addr → Option R) → (Bool → Option R) → Option R) (L_exampleHolds_p2 : Option Addr → Int → Int → Option Addr → Heap → (Option Addr → Heap → Option R) → (Bool → Heap → Option R) → Option R) : JTab R := tcons 0 (L_exampleHolds_aa0 L_exampleHolds_p0 k) <| tcons 1 (L_exampleHolds_aa1 L_exampleHolds_p1 k) <| tcons 2 (L_exampleHolds_aa2 L_exampleHolds_p2 k) <| fun _ _ _ _ => none
def L_exampleHolds_J (R : Type) (k : Nat) : JTab R := L_exampleHolds_Jt k (L_exampleHolds_p0 k) (L_exampleHolds_p1 k) (L_exampleHolds_p2 k)
def L_exampleHolds_at : AT := (.seq (.reg [] []) (.seq (.reg [1, 2] []) (.seq (.opq 0 [1, 2] ⟨[1], [], [0]⟩ (.seq (.reg [1, 56] []) (.cond (.seq (.reg [0] []) .leaf) .leaf))) (.seq (.reg [1, 3, 4, 5] []) (.seq (.reg [1, 3, 4, 5, 6, 7] []) (.seq (.reg [1, 3, 4, 5, 6, 7, 8, 9, 10] []) (.seq (.reg [1, 3, 4, 5, 6, 7, 8, 9, 10, 11, 12, 13] []) (.seq (.opq 1 [1, 3, 4, 5, 6, 7, 8, 9, 10, 11, 12, 13] ⟨[1], [], [0]⟩ (.seq (.reg [1, 121] []) (.cond (.seq (.reg [0] []) .leaf) .leaf))) (.seq (.reg [1, 14, 15] []) (.seq (.reg [1, 14, 15, 16] []) (.seq (.opq 2 [1, 14, 15, 16] ⟨[1], [], [0]⟩ (.seq (.reg [1, 155] []) (.cond (.seq (.reg [0] []) .leaf) .leaf))) (.seq (.reg [0] []) .leaf))))))))))))
def L_exampleHolds_i2 : IC := (.seq (.reg [⟨some 127, .mov (.t 14), none⟩,
 ⟨some 128, .cmp .neq (.t 127) (.c (Go.Value.int Go.IntKind.i64 2)), none⟩,
 ⟨some 129, .mov (.t 128), none⟩,
 ⟨some 130, .mov (.t 15), some (129, false)⟩,
 ⟨some 131, .cmp .neq (.t 130) (.c (Go.Value.int Go.IntKind.i64 2)), some (129, false)⟩,
 ⟨some 132, .pick (.t 129) (.c (Go.Value.bool true)) (.t 131), none⟩,
 ⟨some 133, .mov (.t 132), none⟩,
 ⟨some 134, .ld (.agg [.bool, .bool, .bool, .bool, .bool]) (.t 16), some (133, false)⟩,
 ⟨some 135, .call 17 [(.c (Go.Value.int Go.IntKind.i64 11)), (.t 134)] (.one (.sc .bool)), some (133, false)⟩,
 ⟨some 136, .lnot (.t 135), some (133, false)⟩,
 ⟨some 137, .pick (.t 133) (.c (Go.Value.bool true)) (.t 136), none⟩,
 ⟨some 138, .mov (.t 137), none⟩,
 ⟨some 139, .ld (.agg [.bool, .bool, .bool, .bool, .bool]) (.t 16), some (138, false)⟩,
 ⟨some 140, .call 17 [(.c (Go.Value.int Go.IntKind.i64 12)), (.t 139)] (.one (.sc .bool)), some (138, false)⟩,
 ⟨some 141, .pick (.t 138) (.c (Go.Value.bool true)) (.t 140), none⟩,
 ⟨some 142, .mov (.t 141), none⟩,
 ⟨some 143, .ld (.agg [.bool, .bool, .bool, .bool, .bool]) (.t 16), some (142, false)⟩,
 ⟨some 144, .call 20 [(.c (Go.Value.int Go.IntKind.i64 14)), (.t 143)] (.one (.sc .slc)), some (142, false)⟩,
 ⟨some 145, .bls 4 [.int .i64 0, .int .i64 0, .int .i64 0, .int .i64 0] [(0, 1, (.c (Go.Value.int Go.IntKind.i64 10))), (1, 1, (.c (Go.Value.int Go.IntKind.i64 2))), (2, 1, (.c (Go.Value.int Go.IntKind.i64 1))), (3, 1, (.c (Go.Value.int Go.IntKind.i64 1)))], some (142, false)⟩,
 ⟨some 146, .call 19 [(.t 144), (.t 145)] (.one (.sc .bool)), some (142, false)⟩,
 ⟨some 147, .lnot (.t 146), some (142, false)⟩,
 ⟨some 148, .pick (.t 142) (.c (Go.Value.bool true)) (.t 147), none⟩,
 ⟨some 149, .mov (.t 148), none⟩,
 ⟨some 150, .bld [.bool false, .bool false, .bool false, .bool false, .bool false] [(1, 1, (.c (Go.Value.bool true)))], some (149, false)⟩,
 ⟨some 151, .call 20 [(.c (Go.Value.int Go.IntKind.i64 3)), (.t 150)] (.one (.sc .slc)), some (149, false)⟩,
 ⟨some 152, .bls 3 [.int .i64 0, .int .i64 0, .int .i64 0] [(0, 1, (.c (Go.Value.int Go.IntKind.i64 1))), (1, 1, (.c (Go.Value.int Go.IntKind.i64 1))), (2, 1, (.c (Go.Value.int Go.IntKind.i64 1)))], some (149, false)⟩,
 ⟨some 153, .call 19 [(.t 151), (.t 152)] (.one (.sc .bool)), some (149, false)⟩,
 ⟨some 154, .lnot (.t 153), some (149, false)⟩,
 ⟨some 155, .pick (.t 149) (.c (Go.Value.bool true)) (.t 154), none⟩] [1, 155]) (.cond (.t 155) (.seq (.reg [⟨some 0, .mov (.c (Go.Value.bool false)), none⟩] [0]) .ret) .skip))
def L_exampleHolds_i1 : IC := (.seq (.reg [⟨some 80, .mov (.t 3), none⟩,
 ⟨some 81, .cmp .neq (.t 80) (.c (Go.Value.int Go.IntKind.i64 2)), none⟩,
 ⟨some 82, .mov (.t 81), none⟩,
 ⟨some 83, .mov (.t 4), some (82, false)⟩,
 ⟨some 84, .cmp .neq (.t 83) (.c (Go.Value.int Go.IntKind.i64 1)), some (82, false)⟩,
 ⟨some 85, .pick (.t 82) (.c (Go.Value.bool true)) (.t 84), none⟩,
 ⟨some 86, .mov (.t 85), none⟩,
 ⟨some 87, .mov (.t 5), some (86, false)⟩,
 ⟨some 88, .cmp .neq (.t 87) (.c (Go.Value.int Go.IntKind.i64 0)), some (86, false)⟩,
 ⟨some 89, .pick (.t 86) (.c (Go.Value.bool true)) (.t 88), none⟩,
 ⟨some 90, .mov (.t 89), none⟩,
 ⟨some 91, .mov (.t 6), some (90, false)⟩,
 ⟨some 92, .cmp .neq (.t 91) (.c (Go.Value.int Go.IntKind.i64 1)), some (90, false)⟩,
 ⟨some 93, .pick (.t 90) (.c (Go.Value.bool true)) (.t 92), none⟩,
 ⟨some 94, .mov (.t 93), none⟩,
 ⟨some 95, .mov (.t 7), some (94, false)⟩,
 ⟨some 96, .cmp .neq (.t 95) (.c (Go.Value.int Go.IntKind.i64 (-1))), some (94, false)⟩,
 ⟨some 97, .pick (.t 94) (.c (Go.Value.bool true)) (.t 96), none⟩,
 ⟨some 98, .mov (.t 97), none⟩,
 ⟨some 99, .mov (.t 8), some (98, false)⟩,
 ⟨some 100, .cmp .neq (.t 99) (.c (Go.Value.int Go.IntKind.i64 0)), some (98, false)⟩,
 ⟨some 101, .pick (.t 98) (.c (Go.Value.bool true)) (.t 100), none⟩,
 ⟨some 102, .mov (.t 101), none⟩,
 ⟨some 103, .mov (.t 9), some (102, false)⟩,
 ⟨some 104, .cmp .neq (.t 103) (.c (Go.Value.int Go.IntKind.i64 0)), some (102, false)⟩,
 ⟨some 105, .pick (.t 102) (.c (Go.Value.bool true)) (.t 104), none⟩,
 ⟨some 106, .mov (.t 105), none⟩,
 ⟨some 107, .mov (.t 10), some (106, false)⟩,
 ⟨some 108, .cmp .neq (.t 107) (.c (Go.Value.int Go.IntKind.i64 2)), some (106, false)⟩,
 ⟨some 109, .pick (.t 106) (.c (Go.Value.bool true)) (.t 108), none⟩,
 ⟨some 110, .mov (.t 109), none⟩,
 ⟨some 111, .mov (.t 11), some (110, false)⟩,
 ⟨some 112, .cmp .neq (.t 111) (.c (Go.Value.int Go.IntKind.i64 0)), some (110, false)⟩,
 ⟨some 113, .pick (.t 110) (.c (Go.Value.bool true)) (.t 112), none⟩,
 ⟨some 114, .mov (.t 113), none⟩,
 ⟨some 115, .mov (.t 12), some (114, false)⟩,
 ⟨some 116, .cmp .neq (.t 115) (.c (Go.Value.int Go.IntKind.i64 0)), some (114, false)⟩,
 ⟨some 117, .pick (.t 114) (.c (Go.Value.bool true)) (.t 116), none⟩,
 ⟨some 118, .mov (.t 117), none⟩,
 ⟨some 119, .mov (.t 13), some (118, false)⟩,
 ⟨some 120, .cmp .neq (.t 119) (.c (Go.Value.int Go.IntKind.i64 0)), some (118, false)⟩,
 ⟨some 121, .pick (.t 118) (.c (Go.Value.bool true)) (.t 120), none⟩] [1, 121]) (.cond (.t 121) (.seq (.reg [⟨some 0, .mov (.c (Go.Value.bool false)), none⟩] [0]) .ret) .skip))
def L_exampleHolds_i0 : IC := (.seq (.reg [⟨some 21, .mov (.t 2), none⟩,
 ⟨some 22, .cmp .neq (.t 21) (.c (Go.Value.int Go.IntKind.i64 0)), none⟩,
 ⟨some 23, .mov (.t 22), none⟩,
 ⟨some 24, .mov (.t 1), some (23, false)⟩,
 ⟨some 25, .eqnil (.t 24) false 0, some (23, false)⟩,
 ⟨some 26, .pick (.t 23) (.c (Go.Value.bool true)) (.t 25), none⟩,
 ⟨some 27, .mov (.t 26), none⟩,
 ⟨some 28, .mov (.t 1), some (27, false)⟩,
 ⟨some 29, .call 42 [(.t 28), (.c (Go.Value.int Go.IntKind.i64 1)), (.c (Go.Value.int Go.IntKind.i64 3)), (.c (Go.Value.int Go.IntKind.i64 (-2)))] (.one (.sc (.int .i64))), some (27, false)⟩,
 ⟨some 30, .cmp .neq (.t 29) (.c (Go.Value.int Go.IntKind.i64 0)), some (27, false)⟩,
 ⟨some 31, .pick (.t 27) (.c (Go.Value.bool true)) (.t 30), none⟩,
 ⟨some 32, .mov (.t 31), none⟩,
 ⟨some 33, .mov (.t 1), some (32, false)⟩,
 ⟨some 34, .call 42 [(.t 33), (.c (Go.Value.int Go.IntKind.i64 0)), (.c (Go.Value.int Go.IntKind.i64 4)), (.c (Go.Value.int Go.IntKind.i64 7))] (.one (.sc (.int .i64))), some (32, false)⟩,
 ⟨some 35, .cmp .neq (.t 34) (.c (Go.Value.int Go.IntKind.i64 0)), some (32, false)⟩,
 ⟨some 36, .pick (.t 32) (.c (Go.Value.bool true)) (.t 35), none⟩,
 ⟨some 37, .mov (.t 36), none⟩,
 ⟨some 38, .mov (.t 1), some (37, false)⟩,
 ⟨some 39, .call 42 [(.t 38), (.c (Go.Value.int Go.IntKind.i64 2)), (.c (Go.Value.int Go.IntKind.i64 4)), (.c (Go.Value.int Go.IntKind.i64 7))] (.one (.sc (.int .i64))), some (37, false)⟩,
 ⟨some 40, .cmp .neq (.t 39) (.c (Go.Value.int Go.IntKind.i64 0)), some (37, false)⟩,
 ⟨some 41, .pick (.t 37) (.c (Go.Value.bool true)) (.t 40), none⟩,
 ⟨some 42, .mov (.t 41), none⟩,
 ⟨some 43, .mov (.t 1), some (42, false)⟩,
 ⟨some 44, .call 27 [(.t 43), (.c (Go.Value.int Go.IntKind.i64 1)), (.c (Go.Value.int Go.IntKind.i64 3))] (.one (.sc (.int .i64))), some (42, false)⟩,
 ⟨some 45, .cmp .neq (.t 44) (.c (Go.Value.int Go.IntKind.i64 0)), some (42, false)⟩,
 ⟨some 46, .pick (.t 42) (.c (Go.Value.bool true)) (.t 45), none⟩,
 ⟨some 47, .mov (.t 46), none⟩,
 ⟨some 48, .mov (.t 1), some (47, false)⟩,
 ⟨some 49, .call 27 [(.t 48), (.c (Go.Value.int Go.IntKind.i64 0)), (.c (Go.Value.int Go.IntKind.i64 4))] (.one (.sc (.int .i64))), some (47, false)⟩,
 ⟨some 50, .cmp .neq (.t 49) (.c (Go.Value.int Go.IntKind.i64 0)), some (47, false)⟩,
 ⟨some 51, .pick (.t 47) (.c (Go.Value.bool true)) (.t 50), none⟩,
 ⟨some 52, .mov (.t 51), none⟩,
 ⟨some 53, .mov (.t 1), some (52, false)⟩,
 ⟨some 54, .call 27 [(.t 53), (.c (Go.Value.int Go.IntKind.i64 2)), (.c (Go.Value.int Go.IntKind.i64 4))] (.one (.sc (.int .i64))), some (52, false)⟩,
 ⟨some 55, .cmp .neq (.t 54) (.c (Go.Value.int Go.IntKind.i64 0)), some (52, false)⟩,
 ⟨some 56, .pick (.t 52) (.c (Go.Value.bool true)) (.t 55), none⟩] [1, 56]) (.cond (.t 56) (.seq (.reg [⟨some 0, .mov (.c (Go.Value.bool false)), none⟩] [0]) .ret) .skip))
def L_exampleHolds_f : IFn := ⟨169, [.t 0], (.seq (.reg [⟨some 0, .mov (.c (Go.Value.bool false)), none⟩] []) (.seq (.reg [⟨some 18, .call 31 [(.c (Go.Value.int Go.IntKind.i64 3)), (.c (Go.Value.int Go.IntKind.i64 5))] (.tup [(.sc .ptr), (.sc (.int .i64))]), none⟩,
 ⟨some 17, .mov (.t 18), none⟩,
 ⟨some 19, .ext 0 (.t 17), none⟩,
 ⟨some 20, .ext 1 (.t 17), none⟩,
 ⟨some 1, .mov (.t 19), none⟩,
 ⟨some 2, .mov (.t 20), none⟩] [1, 2]) (.seq (.opq 0 [1, 2] L_exampleHolds_i0) (.seq (.reg [⟨some 58, .mov (.t 1), none⟩,
 ⟨some 59, .call 29 [(.t 58), (.c (Go.Value.int Go.IntKind.i64 1)), (.c (Go.Value.int Go.IntKind.i64 4)), (.c (Go.Value.bool false))] (.tup [(.sc (.int .i64)), (.sc (.int .i64)), (.sc (.int .i64))]), none⟩,
 ⟨some 57, .mov (.t 59), none⟩,
 ⟨some 60, .ext 0 (.t 57), none⟩,
 ⟨some 61, .ext 1 (.t 57), none⟩,
 ⟨some 62, .ext 2 (.t 57), none⟩,
 ⟨some 3, .mov (.t 60), none⟩,
 ⟨some 4, .mov (.t 61), none⟩,
 ⟨some 5, .mov (.t 62), none⟩] [1, 3, 4, 5]) (.seq (.reg [⟨some 64, .mov (.t 1), none⟩,
 ⟨some 65, .call 30 [(.t 64), (.c (Go.Value.int Go.IntKind.i64 1)), (.c (Go.Value.int Go.IntKind.i64 4)), (.c (Go.Value.bool false))] (.tup [(.sc (.int .i64)), (.sc (.int .i64))]), none⟩,
 ⟨some 63, .mov (.t 65), none⟩,
 ⟨some 66, .ext 0 (.t 63), none⟩,
 ⟨some 67, .ext 1 (.t 63), none⟩,
 ⟨some 6, .mov (.t 66), none⟩,
 ⟨some 7, .mov (.t 67), none⟩] [1, 3, 4, 5, 6, 7]) (.seq (.reg [⟨some 69, .mov (.t 1), none⟩,
 ⟨some 70, .call 29 [(.t 69), (.c (Go.Value.int Go.IntKind.i64 1)), (.c (Go.Value.int Go.IntKind.i64 3)), (.c (Go.Value.bool false))] (.tup [(.sc (.int .i64)), (.sc (.int .i64)), (.sc (.int .i64))]), none⟩,
 ⟨some 68, .mov (.t 70), none⟩,
 ⟨some 71, .ext 0 (.t 68), none⟩,
 ⟨some 72, .ext 1 (.t 68), none⟩,
 ⟨some 73, .ext 2 (.t 68), none⟩,
 ⟨some 8, .mov (.t 71), none⟩,
 ⟨some 9, .mov (.t 72), none⟩,
 ⟨some 10, .mov (.t 73), none⟩] [1, 3, 4, 5, 6, 7, 8, 9, 10]) (.seq (.reg [⟨some 75, .mov (.t 1), none⟩,
 ⟨some 76, .call 29 [(.t 75), (.c (Go.Value.int Go.IntKind.i64 1)), (.c (Go.Value.int Go.IntKind.i64 3)), (.c (Go.Value.bool true))] (.tup [(.sc (.int .i64)), (.sc (.int .i64)), (.sc (.int .i64))]), none⟩,
 ⟨some 74, .mov (.t 76), none⟩,
 ⟨some 77, .ext 0 (.t 74), none⟩,
 ⟨some 78, .ext 1 (.t 74), none⟩,
 ⟨some 79, .ext 2 (.t 74), none⟩,
 ⟨some 11, .mov (.t 77), none⟩,
 ⟨some 12, .mov (.t 78), none⟩,
 ⟨some 13, .mov (.t 79), none⟩] [1, 3, 4, 5, 6, 7, 8, 9, 10, 11, 12, 13]) (.seq (.opq 1 [1, 3, 4, 5, 6, 7, 8, 9, 10, 11, 12, 13] L_exampleHolds_i1) (.seq (.reg [⟨some 123, .call 15 [(.c (Go.Value.int Go.IntKind.i64 6))] (.tup [(.sc (.int .i64)), (.sc (.int .i64))]), none⟩,
 ⟨some 122, .mov (.t 123), none⟩,
 ⟨some 124, .ext 0 (.t 122), none⟩,
 ⟨some 125, .ext 1 (.t 122), none⟩,
 ⟨some 14, .mov (.t 124), none⟩,
 ⟨some 15, .mov (.t 125), none⟩] [1, 14, 15]) (.seq (.reg [⟨some 126, .bld [.bool false, .bool false, .bool false, .bool false, .bool false] [(0, 1, (.c (Go.Value.bool true)))], none⟩,
 ⟨some 16, .alc [.bool false, .bool false, .bool false, .bool false, .bool false], none⟩,
 ⟨none, .st 5 (.t 16) (.t 126), none⟩] [1, 14, 15, 16]) (.seq (.opq 2 [1, 14, 15, 16] L_exampleHolds_i2) (.seq (.reg [⟨some 156, .call 12 [(.c (Go.Value.int Go.IntKind.i64 2)), (.c (Go.Value.int Go.IntKind.i64 5))] (.one (.sc .slc)), none⟩,
 ⟨some 157, .len false (.t 156), none⟩,
 ⟨some 158, .cmp .eql (.t 157) (.c (Go.Value.int Go.IntKind.i64 10)), none⟩,
 ⟨some 159, .mov (.t 158), none⟩,
 ⟨some 160, .mov (.t 1), some (159, true)⟩,
 ⟨some 161, .call 42 [(.t 160), (.c (Go.Value.int Go.IntKind.i64 3)), (.c (Go.Value.int Go.IntKind.i64 0)), (.c (Go.Value.int Go.IntKind.i64 1))] (.one (.sc (.int .i64))), some (159, true)⟩,
 ⟨some 162, .cmp .eql (.t 161) (.c (Go.Value.int Go.IntKind.i64 2)), some (159, true)⟩,
 ⟨some 163, .pick (.t 159) (.t 162) (.c (Go.Value.bool false)), none⟩,
 ⟨some 164, .mov (.t 163), none⟩,
 ⟨some 165, .mov (.t 1), some (164, true)⟩,
 ⟨some 166, .call 42 [(.t 165), (.c (Go.Value.int Go.IntKind.i64 0)), (.c (Go.Value.int Go.IntKind.i64 0)), (.c (Go.Value.int Go.IntKind.i64 1152921504606846976))] (.one (.sc (.int .i64))), some (164, true)⟩,
 ⟨some 167, .cmp .eql (.t 166) (.c (Go.Value.int Go.IntKind.i64 2)), some (164, true)⟩,
 ⟨some 168, .pick (.t 164) (.t 167) (.c (Go.Value.bool false)), none⟩,
 ⟨some 0, .mov (.t 168), none⟩] [0]) .ret))))))))))))⟩
theorem L_exampleHolds_e2 {R : Type} (cblk_New : Int → Int → Heap → (Option Addr → Int → Heap → Option R) → Option R) (cblk_Block_Set : Option Addr → Int → Int → Int → Heap → (Int → Heap → Option R) → Option R) (cblk_Block_Mark : Option Addr → Int → Int → Heap → (Int → Heap → Option R) → Option R) (cblk_Block_Neighbors : Option Addr → Int → Int → Bool → Heap → (Int → Int → Int → Option R) → Option R) (cblk_Block_Signs : Option Addr → Int → Int → Bool → Heap → (Int → Int → Option R) → Option R) (cblk_Pass : Int → (Int → Int → Option R) → Option R) (cblk_Raw : Int → Bool → Bool → Bool → Bool → Bool → Heap → (Bool → Heap → Option R) → Option R) (cblk_Segments : Int → Bool → Bool → Bool → Bool → Bool → Heap → (Option Addr → Nat → Nat → Heap → Option R) → Option R) (R02_SameInts : Option Addr → Nat → Nat → Option Addr → Nat → Nat → Heap → (Bool → Option R) → Option R) (cblk_Scan : Int → Int → Heap → (Option Addr → Nat → Nat → Heap → Option R) → Option R) (L_exampleHolds_p0 : Option Addr → Int → Heap → (Option Addr → Heap → Option R) → (Bool → Heap → Option R) → Option R) (L_exampleHolds_p1 : Option Addr → Int → Int → Int → Int → Int → Int → Int → Int → Int → Int → Int → (Option Addr → Option R) → (Bool → Option R) → Option R) (L_exampleHolds_p2 : Option Addr → Int → Int → Option Addr → Heap → (Option Addr → Heap → Option R) → (Bool → Heap → Option R) → Option R) (k : Nat) (p226 : Option Addr) (n227 : Int) (n228 : Int) (p229 : Option Addr) (H : Heap) (K : Xit → Env → Heap → Option R) : evJ (L_exampleHolds_Ct cblk_New cblk_Block_Set cblk_Block_Mark cblk_Block_Neighbors cblk_Block_Signs cblk_Pass cblk_Raw cblk_Segments R02_SameInts cblk_Scan) (L_exampleHolds_Jt k L_exampleHolds_p0 L_exampleHolds_p1 L_exampleHolds_p2) L_exampleHolds_i2 (List.zip [1, 14, 15, 16] [.pointer p226, .int .i64 n227, .int .i64 n228, .pointer p229]) H (fun x e' H' => K x (clean e' ((⟨[1], [], [0]⟩ : Out).of x)) H') = L_exampleHolds_p2_b cblk_Raw cblk_Segments R02_SameInts k p226 n227 n228 p229 H (fun p1167 H => K .normal [(1, .pointer p1167)] H) (fun t1168 H => K .ret [(0, .bool t1168)] H) := by kernel_rfl
theorem L_exampleHolds_j2 {R : Type} (k : Nat) : JS Try.prog 169 (L_exampleHolds_a2 R k k) [1, 14, 15, 16] ⟨[1], [], [0]⟩ (sel [1, 1, 1, 1, 1, 1, 1, 1, 1, 1, 0] (Try.f14.body.getD .skip)) :=
  piece_ok (nt := 169) (c := (sel [1, 1, 1, 1, 1, 1, 1, 1, 1, 1, 0] (Try.f14.body.getD .skip))) (C := L_exampleHolds_C R k) (an := An) (t := (.seq (.reg [1, 155] []) (.cond (.seq (.reg [0] []) .leaf) .leaf))) (ic := L_exampleHolds_i2) (L_exampleHolds_S R k) (L_exampleHolds_J R k) (by kernel_rfl) (And.intro True.intro (And.intro (And.intro True.intro True.intro) True.intro)) (L_exampleHolds_a2 R k k)
    (fun vals H K r h => by
      unfold L_exampleHolds_a2 L_exampleHolds_aa2 at h
      split at h <;> first | (cases h; done) | exact Eq.trans (L_exampleHolds_e2 cblk_New (cblk_Block_Set k) (cblk_Block_Mark k) (cblk_Block_Neighbors k) (cblk_Block_Signs k) cblk_Pass (cblk_Raw k) (cblk_Segments k) (R02_SameInts k) (cblk_Scan k) (L_exampleHolds_p0 k) (L_exampleHolds_p1 k) (L_exampleHolds_p2 k) k _ _ _ _ H K) h)
theorem L_exampleHolds_e1 {R : Type} (cblk_New : Int → Int → Heap → (Option Addr → Int → Heap → Option R) → Option R) (cblk_Block_Set : Option Addr → Int → Int → Int → Heap → (Int → Heap → Option R) → Option R) (cblk_Block_Mark : Option Addr → Int → Int → Heap → (Int → Heap → Option R) → Option R) (cblk_Block_Neighbors : Option Addr → Int → Int → Bool → Heap → (Int → Int → Int → Option R) → Option R) (cblk_Block_Signs : Option Addr → Int → Int → Bool → Heap → (Int → Int → Option R) → Option R) (cblk_Pass : Int → (Int → Int → Option R) → Option R) (cblk_Raw : Int → Bool → Bool → Bool → Bool → Bool → Heap → (Bool → Heap → Option R) → Option R) (cblk_Segments : Int → Bool → Bool → Bool → Bool → Bool → Heap → (Option Addr → Nat → Nat → Heap → Option R) → Option R) (R02_SameInts : Option Addr → Nat → Nat → Option Addr → Nat → Nat → Heap → (Bool → Option R) → Option R) (cblk_Scan : Int → Int → Heap → (Option Addr → Nat → Nat → Heap → Option R) → Option R) (L_exampleHolds_p0 : Option Addr → Int → Heap → (Option Addr → Heap → Option R) → (Bool → Heap → Option R) → Option R) (L_exampleHolds_p1 : Option Addr → Int → Int → Int → Int → Int → Int → Int → Int → Int → Int → Int → (Option Addr → Option R) → (Bool → Option R) → Option R) (L_exampleHolds_p2 : Option Addr → Int → Int → Option Addr → Heap → (Option Addr → Heap → Option R) → (Bool → Heap → Option R) → Option R) (k : Nat) (p206 : Option Addr) (n207 : Int) (n208 : Int) (n209 : Int) (n210 : Int) (n211 : Int) (n212 : Int) (n213 : Int) (n214 : Int) (n215 : Int) (n216 : Int) (n217 : Int) (H : Heap) (K : Xit → Env → Heap → Option R) : evJ (L_exampleHolds_Ct cblk_New cblk_Block_Set cblk_Block_Mark cblk_Block_Neighbors cblk_Block_Signs cblk_Pass cblk_Raw cblk_Segments R02_SameInts cblk_Scan) (L_exampleHolds_Jt k L_exampleHolds_p0 L_exampleHolds_p1 L_exampleHolds_p2) L_exampleHolds_i1 (List.zip [1, 3, 4, 5, 6, 7, 8, 9, 10, 11, 12, 13] [.pointer p206, .int .i64 n207, .int .i64 n208, .int .i64 n209, .int .i64 n210, .int .i64 n211, .int .i64 n212, .int .i64 n213, .int .i64 n214, .int .i64 n215, .int .i64 n216, .int .i64 n217]) H (fun x e' H' => K x (clean e' ((⟨[1], [], [0]⟩ : Out).of x)) H') = L_exampleHolds_p1_b k p206 n207 n208 n209 n210 n211 n212 n213 n214 n215 n216 n217 (fun p1165 => K .normal [(1, .pointer p1165)] H) (fun t1166 => K .ret [(0, .bool t1166)] H) := by kernel_rfl
theorem L_exampleHolds_j1 {R : Type} (k : Nat) : JS Try.prog 169 (L_exampleHolds_a1 R k k) [1, 3, 4, 5, 6, 7, 8, 9, 10, 11, 12, 13] ⟨[1], [], [0]⟩ (sel [1, 1, 1, 1, 1, 1, 1, 0] (Try.f14.body.getD .skip)) :=
  piece_ok (nt := 169) (c := (sel [1, 1, 1, 1, 1, 1, 1, 0] (Try.f14.body.getD .skip))) (C := L_exampleHolds_C R k) (an := An) (t := (.seq (.reg [1, 121] []) (.cond (.seq (.reg [0] []) .leaf) .leaf))) (ic := L_exampleHolds_i1) (L_exampleHolds_S R k) (L_exampleHolds_J R k) (by kernel_rfl) (And.intro True.intro (And.intro (And.intro True.intro True.intro) True.intro)) (L_exampleHolds_a1 R k k)
    (fun vals H K r h => by
      unfold L_exampleHolds_a1 L_exampleHolds_aa1 at h
      split at h <;> first | (cases h; done) | exact Eq.trans (L_exampleHolds_e1 cblk_New (cblk_Block_Set k) (cblk_Block_Mark k) (cblk_Block_Neighbors k) (cblk_Block_Signs k) cblk_Pass (cblk_Raw k) (cblk_Segments k) (R02_SameInts k) (cblk_Scan k) (L_exampleHolds_p0 k) (L_exampleHolds_p1 k) (L_exampleHolds_p2 k) k _ _ _ _ _ _ _ _ _ _ _ _ H K) h)
theorem L_exampleHolds_e0 {R : Type} (cblk_New : Int → Int → Heap → (Option Addr → Int → Heap → Option R) → Option R) (cblk_Block_Set : Option Addr → Int → Int → Int → Heap → (Int → Heap → Option R) → Option R) (cblk_Block_Mark : Option Addr → Int → Int → Heap → (Int → Heap → Option R) → Option R) (cblk_Block_Neighbors : Option Addr → Int → Int → Bool → Heap → (Int → Int → Int → Option R) → Option R) (cblk_Block_Signs : Option Addr → Int → Int → Bool → Heap → (Int → Int → Option R) → Option R) (cblk_Pass : Int → (Int → Int → Option R) → Option R) (cblk_Raw : Int → Bool → Bool → Bool → Bool → Bool → Heap → (Bool → Heap → Option R) → Option R) (cblk_Segments : Int → Bool → Bool → Bool → Bool → Bool → Heap → (Option Addr → Nat → Nat → Heap → Option R) → Option R) (R02_SameInts : Option Addr → Nat → Nat → Option Addr → Nat → Nat → Heap → (Bool → Option R) → Option R) (cblk_Scan : Int → Int → Heap → (Option Addr → Nat → Nat → Heap → Option R) → Option R) (L_exampleHolds_p0 : Option Addr → Int → Heap → (Option Addr → Heap → Option R) → (Bool → Heap → Option R) → Option R) (L_exampleHolds_p1 : Option Addr → Int → Int → Int → Int → Int → Int → Int → Int → Int → Int → Int → (Option Addr → Option R) → (Bool → Option R) → Option R) (L_exampleHolds_p2 : Option Addr → Int → Int → Option Addr → Heap → (Option Addr → Heap → Option R) → (Bool → Heap → Option R) → Option R) (k : Nat) (p177 : Option Addr) (n178 : Int) (H : Heap) (K : Xit → Env → Heap → Option R) : evJ (L_exampleHolds_Ct cblk_New cblk_Block_Set cblk_Block_Mark cblk_Block_Neighbors cblk_Block_Signs cblk_Pass cblk_Raw cblk_Segments R02_SameInts cblk_Scan) (L_exampleHolds_Jt k L_exampleHolds_p0 L_exampleHolds_p1 L_exampleHolds_p2) L_exampleHolds_i0 (List.zip [1, 2] [.pointer p177, .int .i64 n178]) H (fun x e' H' => K x (clean e' ((⟨[1], [], [0]⟩ : Out).of x)) H') = L_exampleHolds_p0_b cblk_Block_Set cblk_Block_Mark k p177 n178 H (fun p1163 H => K .normal [(1, .pointer p1163)] H) (fun t1164 H => K .ret [(0, .bool t1164)] H) := by kernel_rfl
theorem L_exampleHolds_j0 {R : Type} (k : Nat) : JS Try.prog 169 (L_exampleHolds_a0 R k k) [1, 2] ⟨[1], [], [0]⟩ (sel [1, 1, 0] (Try.f14.body.getD .skip)) :=
  piece_ok (nt := 169) (c := (sel [1, 1, 0] (Try.f14.body.getD .skip))) (C := L_exampleHolds_C R k) (an := An) (t := (.seq (.reg [1, 56] []) (.cond (.seq (.reg [0] []) .leaf) .leaf))) (ic := L_exampleHolds_i0) (L_exampleHolds_S R k) (L_exampleHolds_J R k) (by kernel_rfl) (And.intro True.intro (And.intro (And.intro True.intro True.intro) True.intro)) (L_exampleHolds_a0 R k k)
    (fun vals H K r h => by
      unfold L_exampleHolds_a0 L_exampleHolds_aa0 at h
      split at h <;> first | (cases h; done) | exact Eq.trans (L_exampleHolds_e0 cblk_New (cblk_Block_Set k) (cblk_Block_Mark k) (cblk_Block_Neighbors k) (cblk_Block_Signs k) cblk_Pass (cblk_Raw k) (cblk_Segments k) (R02_SameInts k) (cblk_Scan k) (L_exampleHolds_p0 k) (L_exampleHolds_p1 k) (L_exampleHolds_p2 k) k _ _ H K) h)
def L_exampleHolds_ca {R : Type} (f : Heap → (Bool → Heap → Option R) → Option R) (args : List Value) (H : Heap) (K : Value → Heap → Option R) : Option R :=
  match args with
  | [] => f H (fun t1169 H => K (.bool t1169) H)
  | _ => none
def L_exampleHolds_c (R : Type) (k : Nat) (args : List Value) (H : Heap) (K : Value → Heap → Option R) : Option R := L_exampleHolds_ca (L_exampleHolds k) args H K
theorem L_exampleHolds_e {R : Type} (cblk_New : Int → Int → Heap → (Option Addr → Int → Heap → Option R) → Option R) (cblk_Block_Set : Option Addr → Int → Int → Int → Heap → (Int → Heap → Option R) → Option R) (cblk_Block_Mark : Option Addr → Int → Int → Heap → (Int → Heap → Option R) → Option R) (cblk_Block_Neighbors : Option Addr → Int → Int → Bool → Heap → (Int → Int → Int → Option R) → Option R) (cblk_Block_Signs : Option Addr → Int → Int → Bool → Heap → (Int → Int → Option R) → Option R) (cblk_Pass : Int → (Int → Int → Option R) → Option R) (cblk_Raw : Int → Bool → Bool → Bool → Bool → Bool → Heap → (Bool → Heap → Option R) → Option R) (cblk_Segments : Int → Bool → Bool → Bool → Bool → Bool → Heap → (Option Addr → Nat → Nat → Heap → Option R) → Option R) (R02_SameInts : Option Addr → Nat → Nat → Option Addr → Nat → Nat → Heap → (Bool → Option R) → Option R) (cblk_Scan : Int → Int → Heap → (Option Addr → Nat → Nat → Heap → Option R) → Option R) (L_exampleHolds_p0 : Option Addr → Int → Heap → (Option Addr → Heap → Option R) → (Bool → Heap → Option R) → Option R) (L_exampleHolds_p1 : Option Addr → Int → Int → Int → Int → Int → Int → Int → Int → Int → Int → Int → (Option Addr → Option R) → (Bool → Option R) → Option R) (L_exampleHolds_p2 : Option Addr → Int → Int → Option Addr → Heap → (Option Addr → Heap → Option R) → (Bool → Heap → Option R) → Option R) (k : Nat) (H : Heap) (K : Value → Heap → Option R) : evF (L_exampleHolds_Ct cblk_New cblk_Block_Set cblk_Block_Mark cblk_Block_Neighbors cblk_Block_Signs cblk_Pass cblk_Raw cblk_Segments R02_SameInts cblk_Scan) (L_exampleHolds_Jt k L_exampleHolds_p0 L_exampleHolds_p1 L_exampleHolds_p2) L_exampleHolds_f [] H K = L_exampleHolds_b cblk_New L_exampleHolds_p0 cblk_Block_Neighbors cblk_Block_Signs L_exampleHolds_p1 cblk_Pass L_exampleHolds_p2 cblk_Scan cblk_Block_Set k H (fun t1169 H => K (.bool t1169) H) := by kernel_rfl
theorem L_exampleHolds_cs (R : Type) (k : Nat) : ∀ args H K r, L_exampleHolds_c R k args H K = some r → ∃ v H', Tri Try.prog 14 args H v H' ∧ K v H' = some r := by
  intro args H K r h
  unfold L_exampleHolds_c L_exampleHolds_ca at h
  split at h
  · exact evF_ok (C := L_exampleHolds_C R k) (an := An) (t := L_exampleHolds_at) (fn := Try.f14) (c := (Try.f14.body.getD .skip)) (ifn := L_exampleHolds_f) (L_exampleHolds_S R k) (L_exampleHolds_J R k) Try.func14 (by kernel_rfl) (by kernel_rfl) (And.intro True.intro (And.intro True.intro (And.intro (L_exampleHolds_j0 k) (And.intro True.intro (And.intro True.intro (And.intro True.intro (And.intro True.intro (And.intro (L_exampleHolds_j1 k) (And.intro True.intro (And.intro True.intro (And.intro (L_exampleHolds_j2 k) (And.intro True.intro True.intro)))))))))))) rfl (Eq.trans (L_exampleHolds_e cblk_New (cblk_Block_Set k) (cblk_Block_Mark k) (cblk_Block_Neighbors k) (cblk_Block_Signs k) cblk_Pass (cblk_Raw k) (cblk_Segments k) (R02_SameInts k) (cblk_Scan k) (L_exampleHolds_p0 k) (L_exampleHolds_p1 k) (L_exampleHolds_p2 k) k H K) h)
  · cases h
/-! ### L_exampleHoldsq: function 14 -/
def L_exampleHoldsq {R : Type} (K : Bool → Option R) : Option R := K true
set_option maxRecDepth 1000000 in
theorem L_exampleHolds_run : L_exampleHolds_c Bool 40 [] [] asB = some true := by kernel_rfl
def L_exampleHoldsq_ca {R : Type} (f : (Bool → Option R) → Option R) (args : List Value) (H : Heap) (K : Value → Heap → Option R) : Option R :=
  match args with
  | [] => f (fun t => K (.bool t) H)
  | _ => none
def L_exampleHoldsq_c (R : Type) (k : Nat) (args : List Value) (H : Heap) (K : Value → Heap → Option R) : Option R := L_exampleHoldsq_ca L_exampleHoldsq args H K
theorem L_exampleHoldsq_cs (R : Type) (k : Nat) : ∀ args H K r, L_exampleHoldsq_c R k args H K = some r → ∃ v H', Tri Try.prog 14 args H v H' ∧ K v H' = some r := by
  intro args H K r h
  unfold L_exampleHoldsq_c L_exampleHoldsq_ca at h
  split at h
  · exact ⟨_, _, closed_ok (L_exampleHolds_cs) L_exampleHolds_run H, h⟩
  · cases h
end Go.Proofs.Ytblpaolcgkjcgaa.Sh
