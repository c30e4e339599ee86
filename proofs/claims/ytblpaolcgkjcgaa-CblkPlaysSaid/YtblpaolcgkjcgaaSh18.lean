/- Lean functions that stand for Go's, over an explicit heap, and the proofs that they do (written by this claim's program shallow.py). -/
import Derived.Test.YtblpaolcgkjcgaaSh0
import Derived.Test.YtblpaolcgkjcgaaSh2
import Derived.Test.YtblpaolcgkjcgaaSh3
import Derived.Test.YtblpaolcgkjcgaaSh6
import Derived.Test.YtblpaolcgkjcgaaSh7
import Derived.Test.YtblpaolcgkjcgaaSh8
import Derived.Test.YtblpaolcgkjcgaaSh10
import Derived.Test.YtblpaolcgkjcgaaSh11
set_option maxRecDepth 100000
set_option linter.unusedVariables false
set_option linter.unusedSimpArgs false
namespace Go.Proofs.Ytblpaolcgkjcgaa.Sh
open Go.Proofs.Ytblpaolcgkjcgaa.FW
/-! ### R14_Block_Value: function 57 -/
def R14_Block_Value_b {R : Type} (R14_Block_get : Option Addr → Int → Int → Heap → (Int → Bool → Bool → Bool → Heap → Option R) → Option R) (k : Nat) (p964 : Option Addr) (n965 : Int) (n966 : Int) (H : Heap) (K : Int → Heap → Option R) : Option R :=
R14_Block_get p964 n965 n966 H fun n967 t968 t969 t970 H971 =>
K n967 H971

def R14_Block_Value {R : Type} (p964 : Option Addr) (n965 : Int) (n966 : Int) (H : Heap) (K : Int → Heap → Option R) : Option R := R14_Block_Value_b R14_Block_get 0 p964 n965 n966 H K

def R14_Block_Value_Ct {R : Type} (R14_Block_get : Option Addr → Int → Int → Heap → (Int → Bool → Bool → Bool → Heap → Option R) → Option R) : Tab R := tcons 66 (R14_Block_get_ca R14_Block_get) <| fun _ _ _ _ => none
def R14_Block_Value_C (R : Type) (k : Nat) : Tab R := R14_Block_Value_Ct R14_Block_get
theorem R14_Block_Value_S (R : Type) (k : Nat) : CSound Try.prog (R14_Block_Value_C R k) := csound_cons (R14_Block_get_cs R k) <| csound_nil
def R14_Block_Value_Jt {R : Type} (k : Nat) : JTab R := fun _ _ _ _ => none
def R14_Block_Value_J (R : Type) (k : Nat) : JTab R := R14_Block_Value_Jt k
def R14_Block_Value_at : AT := (.seq (.reg [0, 1, 2] []) (.seq (.reg [6] []) .leaf))
def R14_Block_Value_f : IFn := ⟨12, [.t 6], (.seq (.reg [⟨some 6, .mov (.c (Go.Value.int Go.IntKind.i64 0)), none⟩] [0, 1, 2]) (.seq (.reg [⟨some 7, .mov (.t 0), none⟩,
 ⟨some 8, .mov (.t 1), none⟩,
 ⟨some 9, .mov (.t 2), none⟩,
 ⟨some 10, .call 66 [(.t 7), (.t 8), (.t 9)] (.one (.agg [(.int .i64), .bool, .bool, .bool])), none⟩,
 ⟨some 11, .fld 0 1 (.sc (.int .i64)) (.t 10), none⟩,
 ⟨some 6, .mov (.t 11), none⟩] [6]) .ret))⟩
def R14_Block_Value_ca {R : Type} (f : Option Addr → Int → Int → Heap → (Int → Heap → Option R) → Option R) (args : List Value) (H : Heap) (K : Value → Heap → Option R) : Option R :=
  match args with
  | [.pointer p964, .int .i64 n965, .int .i64 n966] => f p964 n965 n966 H (fun n1548 H => K (.int .i64 n1548) H)
  | _ => none
def R14_Block_Value_c (R : Type) (k : Nat) (args : List Value) (H : Heap) (K : Value → Heap → Option R) : Option R := R14_Block_Value_ca R14_Block_Value args H K
theorem R14_Block_Value_e {R : Type} (R14_Block_get : Option Addr → Int → Int → Heap → (Int → Bool → Bool → Bool → Heap → Option R) → Option R) (k : Nat) (p964 : Option Addr) (n965 : Int) (n966 : Int) (H : Heap) (K : Value → Heap → Option R) : evF (R14_Block_Value_Ct R14_Block_get) (R14_Block_Value_Jt k) R14_Block_Value_f [.pointer p964, .int .i64 n965, .int .i64 n966] H K = R14_Block_Value_b R14_Block_get k p964 n965 n966 H (fun n1548 H => K (.int .i64 n1548) H) := by kernel_rfl
theorem R14_Block_Value_cs (R : Type) (k : Nat) : ∀ args H K r, R14_Block_Value_c R k args H K = some r → ∃ v H', Tri Try.prog 57 args H v H' ∧ K v H' = some r := by
  intro args H K r h
  unfold R14_Block_Value_c R14_Block_Value_ca at h
  split at h
  · exact evF_ok (C := R14_Block_Value_C R 0) (an := An) (t := R14_Block_Value_at) (fn := Try.f57) (c := (Try.f57.body.getD .skip)) (ifn := R14_Block_Value_f) (R14_Block_Value_S R 0) (R14_Block_Value_J R 0) Try.func57 (by kernel_rfl) (by kernel_rfl) (And.intro True.intro (And.intro True.intro True.intro)) rfl (Eq.trans (R14_Block_Value_e R14_Block_get 0 _ _ _ H K) h)
  · cases h
/-! ### R14_Block_Significant: function 58 -/
def R14_Block_Significant_b {R : Type} (R14_Block_get : Option Addr → Int → Int → Heap → (Int → Bool → Bool → Bool → Heap → Option R) → Option R) (k : Nat) (p976 : Option Addr) (n977 : Int) (n978 : Int) (H : Heap) (K : Bool → Heap → Option R) : Option R :=
R14_Block_get p976 n977 n978 H fun n979 t980 t981 t982 H983 =>
K t980 H983

def R14_Block_Significant {R : Type} (p976 : Option Addr) (n977 : Int) (n978 : Int) (H : Heap) (K : Bool → Heap → Option R) : Option R := R14_Block_Significant_b R14_Block_get 0 p976 n977 n978 H K

def R14_Block_Significant_Ct {R : Type} (R14_Block_get : Option Addr → Int → Int → Heap → (Int → Bool → Bool → Bool → Heap → Option R) → Option R) : Tab R := tcons 66 (R14_Block_get_ca R14_Block_get) <| fun _ _ _ _ => none
def R14_Block_Significant_C (R : Type) (k : Nat) : Tab R := R14_Block_Significant_Ct R14_Block_get
theorem R14_Block_Significant_S (R : Type) (k : Nat) : CSound Try.prog (R14_Block_Significant_C R k) := csound_cons (R14_Block_get_cs R k) <| csound_nil
def R14_Block_Significant_Jt {R : Type} (k : Nat) : JTab R := fun _ _ _ _ => none
def R14_Block_Significant_J (R : Type) (k : Nat) : JTab R := R14_Block_Significant_Jt k
def R14_Block_Significant_at : AT := (.seq (.reg [0, 1, 2] []) (.seq (.reg [6] []) .leaf))
def R14_Block_Significant_f : IFn := ⟨12, [.t 6], (.seq (.reg [⟨some 6, .mov (.c (Go.Value.bool false)), none⟩] [0, 1, 2]) (.seq (.reg [⟨some 7, .mov (.t 0), none⟩,
 ⟨some 8, .mov (.t 1), none⟩,
 ⟨some 9, .mov (.t 2), none⟩,
 ⟨some 10, .call 66 [(.t 7), (.t 8), (.t 9)] (.one (.agg [(.int .i64), .bool, .bool, .bool])), none⟩,
 ⟨some 11, .fld 1 1 (.sc .bool) (.t 10), none⟩,
 ⟨some 6, .mov (.t 11), none⟩] [6]) .ret))⟩
def R14_Block_Significant_ca {R : Type} (f : Option Addr → Int → Int → Heap → (Bool → Heap → Option R) → Option R) (args : List Value) (H : Heap) (K : Value → Heap → Option R) : Option R :=
  match args with
  | [.pointer p976, .int .i64 n977, .int .i64 n978] => f p976 n977 n978 H (fun t1549 H => K (.bool t1549) H)
  | _ => none
def R14_Block_Significant_c (R : Type) (k : Nat) (args : List Value) (H : Heap) (K : Value → Heap → Option R) : Option R := R14_Block_Significant_ca R14_Block_Significant args H K
theorem R14_Block_Significant_e {R : Type} (R14_Block_get : Option Addr → Int → Int → Heap → (Int → Bool → Bool → Bool → Heap → Option R) → Option R) (k : Nat) (p976 : Option Addr) (n977 : Int) (n978 : Int) (H : Heap) (K : Value → Heap → Option R) : evF (R14_Block_Significant_Ct R14_Block_get) (R14_Block_Significant_Jt k) R14_Block_Significant_f [.pointer p976, .int .i64 n977, .int .i64 n978] H K = R14_Block_Significant_b R14_Block_get k p976 n977 n978 H (fun t1549 H => K (.bool t1549) H) := by kernel_rfl
theorem R14_Block_Significant_cs (R : Type) (k : Nat) : ∀ args H K r, R14_Block_Significant_c R k args H K = some r → ∃ v H', Tri Try.prog 58 args H v H' ∧ K v H' = some r := by
  intro args H K r h
  unfold R14_Block_Significant_c R14_Block_Significant_ca at h
  split at h
  · exact evF_ok (C := R14_Block_Significant_C R 0) (an := An) (t := R14_Block_Significant_at) (fn := Try.f58) (c := (Try.f58.body.getD .skip)) (ifn := R14_Block_Significant_f) (R14_Block_Significant_S R 0) (R14_Block_Significant_J R 0) Try.func58 (by kernel_rfl) (by kernel_rfl) (And.intro True.intro (And.intro True.intro True.intro)) rfl (Eq.trans (R14_Block_Significant_e R14_Block_get 0 _ _ _ H K) h)
  · cases h
/-! ### R14_Block_Touched: function 59 -/
def R14_Block_Touched_b {R : Type} (R14_Block_get : Option Addr → Int → Int → Heap → (Int → Bool → Bool → Bool → Heap → Option R) → Option R) (k : Nat) (p988 : Option Addr) (n989 : Int) (n990 : Int) (H : Heap) (K : Bool → Heap → Option R) : Option R :=
R14_Block_get p988 n989 n990 H fun n991 t992 t993 t994 H995 =>
K t993 H995

def R14_Block_Touched {R : Type} (p988 : Option Addr) (n989 : Int) (n990 : Int) (H : Heap) (K : Bool → Heap → Option R) : Option R := R14_Block_Touched_b R14_Block_get 0 p988 n989 n990 H K

def R14_Block_Touched_Ct {R : Type} (R14_Block_get : Option Addr → Int → Int → Heap → (Int → Bool → Bool → Bool → Heap → Option R) → Option R) : Tab R := tcons 66 (R14_Block_get_ca R14_Block_get) <| fun _ _ _ _ => none
def R14_Block_Touched_C (R : Type) (k : Nat) : Tab R := R14_Block_Touched_Ct R14_Block_get
theorem R14_Block_Touched_S (R : Type) (k : Nat) : CSound Try.prog (R14_Block_Touched_C R k) := csound_cons (R14_Block_get_cs R k) <| csound_nil
def R14_Block_Touched_Jt {R : Type} (k : Nat) : JTab R := fun _ _ _ _ => none
def R14_Block_Touched_J (R : Type) (k : Nat) : JTab R := R14_Block_Touched_Jt k
def R14_Block_Touched_at : AT := (.seq (.reg [0, 1, 2] []) (.seq (.reg [6] []) .leaf))
def R14_Block_Touched_f : IFn := ⟨12, [.t 6], (.seq (.reg [⟨some 6, .mov (.c (Go.Value.bool false)), none⟩] [0, 1, 2]) (.seq (.reg [⟨some 7, .mov (.t 0), none⟩,
 ⟨some 8, .mov (.t 1), none⟩,
 ⟨some 9, .mov (.t 2), none⟩,
 ⟨some 10, .call 66 [(.t 7), (.t 8), (.t 9)] (.one (.agg [(.int .i64), .bool, .bool, .bool])), none⟩,
 ⟨some 11, .fld 2 1 (.sc .bool) (.t 10), none⟩,
 ⟨some 6, .mov (.t 11), none⟩] [6]) .ret))⟩
def R14_Block_Touched_ca {R : Type} (f : Option Addr → Int → Int → Heap → (Bool → Heap → Option R) → Option R) (args : List Value) (H : Heap) (K : Value → Heap → Option R) : Option R :=
  match args with
  | [.pointer p988, .int .i64 n989, .int .i64 n990] => f p988 n989 n990 H (fun t1550 H => K (.bool t1550) H)
  | _ => none
def R14_Block_Touched_c (R : Type) (k : Nat) (args : List Value) (H : Heap) (K : Value → Heap → Option R) : Option R := R14_Block_Touched_ca R14_Block_Touched args H K
theorem R14_Block_Touched_e {R : Type} (R14_Block_get : Option Addr → Int → Int → Heap → (Int → Bool → Bool → Bool → Heap → Option R) → Option R) (k : Nat) (p988 : Option Addr) (n989 : Int) (n990 : Int) (H : Heap) (K : Value → Heap → Option R) : evF (R14_Block_Touched_Ct R14_Block_get) (R14_Block_Touched_Jt k) R14_Block_Touched_f [.pointer p988, .int .i64 n989, .int .i64 n990] H K = R14_Block_Touched_b R14_Block_get k p988 n989 n990 H (fun t1550 H => K (.bool t1550) H) := by kernel_rfl
theorem R14_Block_Touched_cs (R : Type) (k : Nat) : ∀ args H K r, R14_Block_Touched_c R k args H K = some r → ∃ v H', Tri Try.prog 59 args H v H' ∧ K v H' = some r := by
  intro args H K r h
  unfold R14_Block_Touched_c R14_Block_Touched_ca at h
  split at h
  · exact evF_ok (C := R14_Block_Touched_C R 0) (an := An) (t := R14_Block_Touched_at) (fn := Try.f59) (c := (Try.f59.body.getD .skip)) (ifn := R14_Block_Touched_f) (R14_Block_Touched_S R 0) (R14_Block_Touched_J R 0) Try.func59 (by kernel_rfl) (by kernel_rfl) (And.intro True.intro (And.intro True.intro True.intro)) rfl (Eq.trans (R14_Block_Touched_e R14_Block_get 0 _ _ _ H K) h)
  · cases h
/-! ### R14_Block_Refined: function 60 -/
def R14_Block_Refined_b {R : Type} (R14_Block_get : Option Addr → Int → Int → Heap → (Int → Bool → Bool → Bool → Heap → Option R) → Option R) (k : Nat) (p1000 : Option Addr) (n1001 : Int) (n1002 : Int) (H : Heap) (K : Bool → Heap → Option R) : Option R :=
R14_Block_get p1000 n1001 n1002 H fun n1003 t1004 t1005 t1006 H1007 =>
K t1006 H1007

def R14_Block_Refined {R : Type} (p1000 : Option Addr) (n1001 : Int) (n1002 : Int) (H : Heap) (K : Bool → Heap → Option R) : Option R := R14_Block_Refined_b R14_Block_get 0 p1000 n1001 n1002 H K

def R14_Block_Refined_Ct {R : Type} (R14_Block_get : Option Addr → Int → Int → Heap → (Int → Bool → Bool → Bool → Heap → Option R) → Option R) : Tab R := tcons 66 (R14_Block_get_ca R14_Block_get) <| fun _ _ _ _ => none
def R14_Block_Refined_C (R : Type) (k : Nat) : Tab R := R14_Block_Refined_Ct R14_Block_get
theorem R14_Block_Refined_S (R : Type) (k : Nat) : CSound Try.prog (R14_Block_Refined_C R k) := csound_cons (R14_Block_get_cs R k) <| csound_nil
def R14_Block_Refined_Jt {R : Type} (k : Nat) : JTab R := fun _ _ _ _ => none
def R14_Block_Refined_J (R : Type) (k : Nat) : JTab R := R14_Block_Refined_Jt k
def R14_Block_Refined_at : AT := (.seq (.reg [0, 1, 2] []) (.seq (.reg [6] []) .leaf))
def R14_Block_Refined_f : IFn := ⟨12, [.t 6], (.seq (.reg [⟨some 6, .mov (.c (Go.Value.bool false)), none⟩] [0, 1, 2]) (.seq (.reg [⟨some 7, .mov (.t 0), none⟩,
 ⟨some 8, .mov (.t 1), none⟩,
 ⟨some 9, .mov (.t 2), none⟩,
 ⟨some 10, .call 66 [(.t 7), (.t 8), (.t 9)] (.one (.agg [(.int .i64), .bool, .bool, .bool])), none⟩,
 ⟨some 11, .fld 3 1 (.sc .bool) (.t 10), none⟩,
 ⟨some 6, .mov (.t 11), none⟩] [6]) .ret))⟩
def R14_Block_Refined_ca {R : Type} (f : Option Addr → Int → Int → Heap → (Bool → Heap → Option R) → Option R) (args : List Value) (H : Heap) (K : Value → Heap → Option R) : Option R :=
  match args with
  | [.pointer p1000, .int .i64 n1001, .int .i64 n1002] => f p1000 n1001 n1002 H (fun t1551 H => K (.bool t1551) H)
  | _ => none
def R14_Block_Refined_c (R : Type) (k : Nat) (args : List Value) (H : Heap) (K : Value → Heap → Option R) : Option R := R14_Block_Refined_ca R14_Block_Refined args H K
theorem R14_Block_Refined_e {R : Type} (R14_Block_get : Option Addr → Int → Int → Heap → (Int → Bool → Bool → Bool → Heap → Option R) → Option R) (k : Nat) (p1000 : Option Addr) (n1001 : Int) (n1002 : Int) (H : Heap) (K : Value → Heap → Option R) : evF (R14_Block_Refined_Ct R14_Block_get) (R14_Block_Refined_Jt k) R14_Block_Refined_f [.pointer p1000, .int .i64 n1001, .int .i64 n1002] H K = R14_Block_Refined_b R14_Block_get k p1000 n1001 n1002 H (fun t1551 H => K (.bool t1551) H) := by kernel_rfl
theorem R14_Block_Refined_cs (R : Type) (k : Nat) : ∀ args H K r, R14_Block_Refined_c R k args H K = some r → ∃ v H', Tri Try.prog 60 args H v H' ∧ K v H' = some r := by
  intro args H K r h
  unfold R14_Block_Refined_c R14_Block_Refined_ca at h
  split at h
  · exact evF_ok (C := R14_Block_Refined_C R 0) (an := An) (t := R14_Block_Refined_at) (fn := Try.f60) (c := (Try.f60.body.getD .skip)) (ifn := R14_Block_Refined_f) (R14_Block_Refined_S R 0) (R14_Block_Refined_J R 0) Try.func60 (by kernel_rfl) (by kernel_rfl) (And.intro True.intro (And.intro True.intro True.intro)) rfl (Eq.trans (R14_Block_Refined_e R14_Block_get 0 _ _ _ H K) h)
  · cases h
/-! ### L_alike: function 39 -/
def L_alike_p2_b {R : Type} (cblk_Block_Value : Option Addr → Int → Int → Heap → (Int → Option R) → Option R) (R14_Block_Value : Option Addr → Int → Int → Heap → (Int → Heap → Option R) → Option R) (cblk_Block_Significant : Option Addr → Int → Int → Heap → (Bool → Option R) → Option R) (R14_Block_Significant : Option Addr → Int → Int → Heap → (Bool → Heap → Option R) → Option R) (cblk_Block_Touched : Option Addr → Int → Int → Heap → (Bool → Option R) → Option R) (R14_Block_Touched : Option Addr → Int → Int → Heap → (Bool → Heap → Option R) → Option R) (cblk_Block_Refined : Option Addr → Int → Int → Heap → (Bool → Option R) → Option R) (R14_Block_Refined : Option Addr → Int → Int → Heap → (Bool → Heap → Option R) → Option R) (k : Nat) (p957 : Option Addr) (p958 : Option Addr) (n959 : Int) (n960 : Int) (n961 : Int) (n962 : Int) (H : Heap) (KN : Option Addr → Option Addr → Int → Int → Int → Int → Heap → Option R) (KR : Bool → Heap → Option R) : Option R :=
cblk_Block_Value p957 n962 n961 H fun n963 =>
R14_Block_Value p958 n962 n961 H fun n964 H965 =>
bif (n963 != n964) then (KR false H965)
 else (cblk_Block_Significant p957 n962 n961 H965 fun t966 =>
R14_Block_Significant p958 n962 n961 H965 fun t967 H968 =>
bif !(t966 == t967) then (KR false H968)
 else (cblk_Block_Touched p957 n962 n961 H968 fun t969 =>
R14_Block_Touched p958 n962 n961 H968 fun t970 H971 =>
bif !(t969 == t970) then (KR false H971)
 else (cblk_Block_Refined p957 n962 n961 H971 fun t972 =>
R14_Block_Refined p958 n962 n961 H971 fun t973 H974 =>
bif !(t972 == t973) then (KR false H974)
 else (KN p957 p958 n959 n960 n961 n962 H974))))
def L_alike_p2 {R : Type} (k : Nat) (p957 : Option Addr) (p958 : Option Addr) (n959 : Int) (n960 : Int) (n961 : Int) (n962 : Int) (H : Heap) (KN : Option Addr → Option Addr → Int → Int → Int → Int → Heap → Option R) (KR : Bool → Heap → Option R) : Option R := L_alike_p2_b (cblk_Block_Value k) R14_Block_Value (cblk_Block_Significant k) R14_Block_Significant (cblk_Block_Touched k) R14_Block_Touched (cblk_Block_Refined k) R14_Block_Refined k p957 p958 n959 n960 n961 n962 H KN KR

def L_alike_l1_b {R : Type} (L_alike_p2 : Option Addr → Option Addr → Int → Int → Int → Int → Heap → (Option Addr → Option Addr → Int → Int → Int → Int → Heap → Option R) → (Bool → Heap → Option R) → Option R) (rec : Option Addr → Option Addr → Int → Int → Int → Int → Heap → Option R) (KE2 : Option Addr → Option Addr → Int → Int → Int → Heap → Option R) (KR : Bool → Heap → Option R) (k : Nat) (p951 : Option Addr) (p952 : Option Addr) (n953 : Int) (n954 : Int) (n955 : Int) (n956 : Int) (H : Heap) : Option R :=
bif decide (n956 ≤ n953) then (L_alike_p2 p951 p952 n953 n954 n955 n956 H (fun p982 p983 n984 n985 n986 n987 H988 =>
rec p982 p983 n984 n985 n986 (IntKind.wrap .i64 (n987 + 1)) H988) (fun t989 H990 =>
KR t989 H990))
 else (KE2 p951 p952 n953 n954 n955 H)
def L_alike_l1 {R : Type} (k : Nat) (KE2 : Option Addr → Option Addr → Int → Int → Int → Heap → Option R) (KR : Bool → Heap → Option R) : Nat → Option Addr → Option Addr → Int → Int → Int → Int → Heap → Option R
  | 0, _, _, _, _, _, _, _ => none
  | n + 1, p951, p952, n953, n954, n955, n956, H => L_alike_l1_b (L_alike_p2 k) (L_alike_l1 k KE2 KR n) KE2 KR k p951 p952 n953 n954 n955 n956 H

def L_alike_l0_b {R : Type} (L_alike_l1 : (Option Addr → Option Addr → Int → Int → Int → Heap → Option R) → (Bool → Heap → Option R) → Nat → Option Addr → Option Addr → Int → Int → Int → Int → Heap → Option R) (rec : Option Addr → Option Addr → Int → Int → Int → Heap → Option R) (KE0 : Heap → Option R) (KR : Bool → Heap → Option R) (k : Nat) (p946 : Option Addr) (p947 : Option Addr) (n948 : Int) (n949 : Int) (n950 : Int) (H : Heap) : Option R :=
bif decide (n950 ≤ n949) then (L_alike_l1 (fun p997 p998 n999 n1000 n1001 H1002 =>
rec p997 p998 n999 n1000 (IntKind.wrap .i64 (n1001 + 1)) H1002) (fun t1003 H1004 =>
KR t1003 H1004) k p946 p947 n948 n949 n950 (-1) H)
 else (KE0 H)
def L_alike_l0 {R : Type} (k : Nat) (KE0 : Heap → Option R) (KR : Bool → Heap → Option R) : Nat → Option Addr → Option Addr → Int → Int → Int → Heap → Option R
  | 0, _, _, _, _, _, _ => none
  | n + 1, p946, p947, n948, n949, n950, H => L_alike_l0_b (L_alike_l1 k) (L_alike_l0 k KE0 KR n) KE0 KR k p946 p947 n948 n949 n950 H

def L_alike_b {R : Type} (L_alike_l0 : (Heap → Option R) → (Bool → Heap → Option R) → Nat → Option Addr → Option Addr → Int → Int → Int → Heap → Option R) (k : Nat) (p942 : Option Addr) (p943 : Option Addr) (n944 : Int) (n945 : Int) (H : Heap) (K : Bool → Heap → Option R) : Option R :=
L_alike_l0 (fun H1006 =>
K true H1006) (fun t1007 H1008 =>
K t1007 H1008) k p942 p943 n944 n945 (-1) H

def L_alike {R : Type} (k : Nat) (p942 : Option Addr) (p943 : Option Addr) (n944 : Int) (n945 : Int) (H : Heap) (K : Bool → Heap → Option R) : Option R := L_alike_b (L_alike_l0 k) k p942 p943 n944 n945 H K

def L_alike_Ct {R : Type} (cblk_Block_Value : Option Addr → Int → Int → Heap → (Int → Option R) → Option R) (R14_Block_Value : Option Addr → Int → Int → Heap → (Int → Heap → Option R) → Option R) (cblk_Block_Significant : Option Addr → Int → Int → Heap → (Bool → Option R) → Option R) (R14_Block_Significant : Option Addr → Int → Int → Heap → (Bool → Heap → Option R) → Option R) (cblk_Block_Touched : Option Addr → Int → Int → Heap → (Bool → Option R) → Option R) (R14_Block_Touched : Option Addr → Int → Int → Heap → (Bool → Heap → Option R) → Option R) (cblk_Block_Refined : Option Addr → Int → Int → Heap → (Bool → Option R) → Option R) (R14_Block_Refined : Option Addr → Int → Int → Heap → (Bool → Heap → Option R) → Option R) : Tab R := tcons 33 (cblk_Block_Value_ca cblk_Block_Value) <| tcons 57 (R14_Block_Value_ca R14_Block_Value) <| tcons 25 (cblk_Block_Significant_ca cblk_Block_Significant) <| tcons 58 (R14_Block_Significant_ca R14_Block_Significant) <| tcons 34 (cblk_Block_Touched_ca cblk_Block_Touched) <| tcons 59 (R14_Block_Touched_ca R14_Block_Touched) <| tcons 35 (cblk_Block_Refined_ca cblk_Block_Refined) <| tcons 60 (R14_Block_Refined_ca R14_Block_Refined) <| fun _ _ _ _ => none
def L_alike_C (R : Type) (k : Nat) : Tab R := L_alike_Ct (cblk_Block_Value k) R14_Block_Value (cblk_Block_Significant k) R14_Block_Significant (cblk_Block_Touched k) R14_Block_Touched (cblk_Block_Refined k) R14_Block_Refined
theorem L_alike_S (R : Type) (k : Nat) : CSound Try.prog (L_alike_C R k) := csound_cons (cblk_Block_Value_cs R k) <| csound_cons (R14_Block_Value_cs R k) <| csound_cons (cblk_Block_Significant_cs R k) <| csound_cons (R14_Block_Significant_cs R k) <| csound_cons (cblk_Block_Touched_cs R k) <| csound_cons (R14_Block_Touched_cs R k) <| csound_cons (cblk_Block_Refined_cs R k) <| csound_cons (R14_Block_Refined_cs R k) <| csound_nil
def L_alike_aa0 {R : Type} (f : (Heap → Option R) → (Bool → Heap → Option R) → Nat → Option Addr → Option Addr → Int → Int → Int → Heap → Option R) (n : Nat) (vals : List Value) (H : Heap) (K : Xit → Env → Heap → Option R) : Option R :=
  match vals with
  | [.pointer p946, .pointer p947, .int .i64 n948, .int .i64 n949, .int .i64 n950] => f (fun H => K (.exit 0) [] H) (fun t1552 H => K .ret [(8, .bool t1552)] H) n p946 p947 n948 n949 n950 H
  | _ => none
def L_alike_a0 (R : Type) (k n : Nat) (vals : List Value) (H : Heap) (K : Xit → Env → Heap → Option R) : Option R := L_alike_aa0 (L_alike_l0 k) n vals H K
def L_alike_aa1 {R : Type} (f : (Option Addr → Option Addr → Int → Int → Int → Heap → Option R) → (Bool → Heap → Option R) → Nat → Option Addr → Option Addr → Int → Int → Int → Int → Heap → Option R) (n : Nat) (vals : List Value) (H : Heap) (K : Xit → Env → Heap → Option R) : Option R :=
  match vals with
  | [.pointer p951, .pointer p952, .int .i64 n953, .int .i64 n954, .int .i64 n955, .int .i64 n956] => f (fun p1553 p1554 n1555 n1556 n1557 H => K (.exit 2) [(0, .pointer p1553), (1, .pointer p1554), (2, .int .i64 n1555), (3, .int .i64 n1556), (9, .int .i64 n1557)] H) (fun t1558 H => K .ret [(8, .bool t1558)] H) n p951 p952 n953 n954 n955 n956 H
  | _ => none
def L_alike_a1 (R : Type) (k n : Nat) (vals : List Value) (H : Heap) (K : Xit → Env → Heap → Option R) : Option R := L_alike_aa1 (L_alike_l1 k) n vals H K
def L_alike_aa2 {R : Type} (f : Option Addr → Option Addr → Int → Int → Int → Int → Heap → (Option Addr → Option Addr → Int → Int → Int → Int → Heap → Option R) → (Bool → Heap → Option R) → Option R) (n : Nat) (vals : List Value) (H : Heap) (K : Xit → Env → Heap → Option R) : Option R :=
  match vals with
  | [.pointer p957, .pointer p958, .int .i64 n959, .int .i64 n960, .int .i64 n961, .int .i64 n962] => f p957 p958 n959 n960 n961 n962 H (fun p1559 p1560 n1561 n1562 n1563 n1564 H => K .normal [(0, .pointer p1559), (1, .pointer p1560), (2, .int .i64 n1561), (3, .int .i64 n1562), (9, .int .i64 n1563), (10, .int .i64 n1564)] H) (fun t1565 H => K .ret [(8, .bool t1565)] H)
  | _ => none
def L_alike_a2 (R : Type) (k n : Nat) (vals : List Value) (H : Heap) (K : Xit → Env → Heap → Option R) : Option R := L_alike_aa2 (L_alike_p2 k) n vals H K
def L_alike_Jt {R : Type} (k : Nat) (L_alike_l0 : (Heap → Option R) → (Bool → Heap → Option R) → Nat → Option Addr → Option Addr → Int → Int → Int → Heap → Option R) (L_alike_l1 : (Option Addr → Option Addr → Int → Int → Int → Heap → Option R) → (Bool → Heap → Option R) → Nat → Option Addr → Option Addr → Int → Int → Int → Int → Heap → Option R) (L_alike_p2 : Option Addr → Option Addr → Int → Int → Int → Int → Heap → (Option Addr → Option Addr → Int → Int → Int → Int → Heap → Option R) → (Bool → Heap → Option R) → Option R) : JTab R := tcons 0 (L_alike_aa0 L_alike_l0 k) <| tcons 1 (L_alike_aa1 L_alike_l1 k) <| tcons 2 (L_alike_aa2 L_alike_p2 k) <| fun _ _ _ _ => none
def L_alike_J (R : Type) (k : Nat) : JTab R := L_alike_Jt k (L_alike_l0 k) (L_alike_l1 k) (L_alike_p2 k)
def L_alike_at : AT := (.seq (.reg [0, 1, 2, 3] []) (.seq (.seq (.reg [0, 1, 2, 3, 9] []) (.node (.opq 0 [0, 1, 2, 3, 9] ⟨[], [(0, [])], [8]⟩ (.node (.seq (.seq (.reg [0, 1, 2, 3, 9, 13] []) (.cond .leaf .leaf)) (.seq (.node (.seq (.reg [0, 1, 2, 3, 9, 10] []) (.node (.opq 1 [0, 1, 2, 3, 9, 10] ⟨[], [(2, [0, 1, 2, 3, 9])], [8]⟩ (.node (.seq (.seq (.reg [0, 1, 2, 3, 9, 10, 18] []) (.cond .leaf .leaf)) (.seq (.opq 2 [0, 1, 2, 3, 9, 10] ⟨[0, 1, 2, 3, 9, 10], [], [8]⟩ (.node (.seq (.reg [0, 1, 2, 3, 9, 10, 62] []) (.cond (.seq (.reg [8] []) .leaf) .leaf)))) (.reg [0, 1, 2, 3, 9, 10] [])))))))) (.reg [0, 1, 2, 3, 9] []))))))) (.seq (.reg [8] []) .leaf)))
def L_alike_i2 : IC := (.block 3 (.seq (.reg [⟨some 21, .mov (.t 0), none⟩,
 ⟨some 22, .mov (.t 10), none⟩,
 ⟨some 23, .mov (.t 9), none⟩,
 ⟨some 24, .call 33 [(.t 21), (.t 22), (.t 23)] (.one (.sc (.int .i64))), none⟩,
 ⟨some 25, .mov (.t 1), none⟩,
 ⟨some 26, .mov (.t 10), none⟩,
 ⟨some 27, .mov (.t 9), none⟩,
 ⟨some 28, .call 57 [(.t 25), (.t 26), (.t 27)] (.one (.sc (.int .i64))), none⟩,
 ⟨some 29, .cmp .neq (.t 24) (.t 28), none⟩,
 ⟨some 30, .mov (.t 29), none⟩,
 ⟨some 31, .mov (.t 0), some (30, false)⟩,
 ⟨some 32, .mov (.t 10), some (30, false)⟩,
 ⟨some 33, .mov (.t 9), some (30, false)⟩,
 ⟨some 34, .call 25 [(.t 31), (.t 32), (.t 33)] (.one (.sc .bool)), some (30, false)⟩,
 ⟨some 35, .mov (.t 1), some (30, false)⟩,
 ⟨some 36, .mov (.t 10), some (30, false)⟩,
 ⟨some 37, .mov (.t 9), some (30, false)⟩,
 ⟨some 38, .call 58 [(.t 35), (.t 36), (.t 37)] (.one (.sc .bool)), some (30, false)⟩,
 ⟨some 39, .eqb (.t 34) (.t 38) true, some (30, false)⟩,
 ⟨some 40, .pick (.t 30) (.c (Go.Value.bool true)) (.t 39), none⟩,
 ⟨some 41, .mov (.t 40), none⟩,
 ⟨some 42, .mov (.t 0), some (41, false)⟩,
 ⟨some 43, .mov (.t 10), some (41, false)⟩,
 ⟨some 44, .mov (.t 9), some (41, false)⟩,
 ⟨some 45, .call 34 [(.t 42), (.t 43), (.t 44)] (.one (.sc .bool)), some (41, false)⟩,
 ⟨some 46, .mov (.t 1), some (41, false)⟩,
 ⟨some 47, .mov (.t 10), some (41, false)⟩,
 ⟨some 48, .mov (.t 9), some (41, false)⟩,
 ⟨some 49, .call 59 [(.t 46), (.t 47), (.t 48)] (.one (.sc .bool)), some (41, false)⟩,
 ⟨some 50, .eqb (.t 45) (.t 49) true, some (41, false)⟩,
 ⟨some 51, .pick (.t 41) (.c (Go.Value.bool true)) (.t 50), none⟩,
 ⟨some 52, .mov (.t 51), none⟩,
 ⟨some 53, .mov (.t 0), some (52, false)⟩,
 ⟨some 54, .mov (.t 10), some (52, false)⟩,
 ⟨some 55, .mov (.t 9), some (52, false)⟩,
 ⟨some 56, .call 35 [(.t 53), (.t 54), (.t 55)] (.one (.sc .bool)), some (52, false)⟩,
 ⟨some 57, .mov (.t 1), some (52, false)⟩,
 ⟨some 58, .mov (.t 10), some (52, false)⟩,
 ⟨some 59, .mov (.t 9), some (52, false)⟩,
 ⟨some 60, .call 60 [(.t 57), (.t 58), (.t 59)] (.one (.sc .bool)), some (52, false)⟩,
 ⟨some 61, .eqb (.t 56) (.t 60) true, some (52, false)⟩,
 ⟨some 62, .pick (.t 52) (.c (Go.Value.bool true)) (.t 61), none⟩] [0, 1, 2, 3, 9, 10, 62]) (.cond (.t 62) (.seq (.reg [⟨some 8, .mov (.c (Go.Value.bool false)), none⟩] [8]) .ret) .skip)))
def L_alike_i1 : IC := (.seq (.seq (.reg [⟨some 16, .mov (.t 10), none⟩,
 ⟨some 17, .mov (.t 2), none⟩,
 ⟨some 18, .cmp .leq (.t 16) (.t 17), none⟩] [0, 1, 2, 3, 9, 10, 18]) (.cond (.t 18) .skip (.exit 2))) (.seq (.opq 2 [0, 1, 2, 3, 9, 10] L_alike_i2) (.reg [⟨some 19, .mov (.t 10), none⟩,
 ⟨some 20, .bin .add .i64 (.t 19) (.c (Go.Value.int Go.IntKind.i64 1)), none⟩,
 ⟨some 10, .mov (.t 20), none⟩] [0, 1, 2, 3, 9, 10])))
def L_alike_i0 : IC := (.seq (.seq (.reg [⟨some 11, .mov (.t 9), none⟩,
 ⟨some 12, .mov (.t 3), none⟩,
 ⟨some 13, .cmp .leq (.t 11) (.t 12), none⟩] [0, 1, 2, 3, 9, 13]) (.cond (.t 13) .skip (.exit 0))) (.seq (.block 1 (.seq (.reg [⟨some 10, .mov (.c (Go.Value.int Go.IntKind.i64 (-1))), none⟩] [0, 1, 2, 3, 9, 10]) (.block 2 (.opq 1 [0, 1, 2, 3, 9, 10] (.loop L_alike_i1))))) (.reg [⟨some 14, .mov (.t 9), none⟩,
 ⟨some 15, .bin .add .i64 (.t 14) (.c (Go.Value.int Go.IntKind.i64 1)), none⟩,
 ⟨some 9, .mov (.t 15), none⟩] [0, 1, 2, 3, 9])))
def L_alike_f : IFn := ⟨63, [.t 8], (.seq (.reg [⟨some 8, .mov (.c (Go.Value.bool false)), none⟩] [0, 1, 2, 3]) (.seq (.seq (.reg [⟨some 9, .mov (.c (Go.Value.int Go.IntKind.i64 (-1))), none⟩] [0, 1, 2, 3, 9]) (.block 0 (.opq 0 [0, 1, 2, 3, 9] (.loop L_alike_i0)))) (.seq (.reg [⟨some 8, .mov (.c (Go.Value.bool true)), none⟩] [8]) .ret)))⟩
theorem L_alike_e2 {R : Type} (cblk_Block_Value : Option Addr → Int → Int → Heap → (Int → Option R) → Option R) (R14_Block_Value : Option Addr → Int → Int → Heap → (Int → Heap → Option R) → Option R) (cblk_Block_Significant : Option Addr → Int → Int → Heap → (Bool → Option R) → Option R) (R14_Block_Significant : Option Addr → Int → Int → Heap → (Bool → Heap → Option R) → Option R) (cblk_Block_Touched : Option Addr → Int → Int → Heap → (Bool → Option R) → Option R) (R14_Block_Touched : Option Addr → Int → Int → Heap → (Bool → Heap → Option R) → Option R) (cblk_Block_Refined : Option Addr → Int → Int → Heap → (Bool → Option R) → Option R) (R14_Block_Refined : Option Addr → Int → Int → Heap → (Bool → Heap → Option R) → Option R) (L_alike_l0 : (Heap → Option R) → (Bool → Heap → Option R) → Nat → Option Addr → Option Addr → Int → Int → Int → Heap → Option R) (L_alike_l1 : (Option Addr → Option Addr → Int → Int → Int → Heap → Option R) → (Bool → Heap → Option R) → Nat → Option Addr → Option Addr → Int → Int → Int → Int → Heap → Option R) (L_alike_p2 : Option Addr → Option Addr → Int → Int → Int → Int → Heap → (Option Addr → Option Addr → Int → Int → Int → Int → Heap → Option R) → (Bool → Heap → Option R) → Option R) (k : Nat) (p957 : Option Addr) (p958 : Option Addr) (n959 : Int) (n960 : Int) (n961 : Int) (n962 : Int) (H : Heap) (K : Xit → Env → Heap → Option R) : evJ (L_alike_Ct cblk_Block_Value R14_Block_Value cblk_Block_Significant R14_Block_Significant cblk_Block_Touched R14_Block_Touched cblk_Block_Refined R14_Block_Refined) (L_alike_Jt k L_alike_l0 L_alike_l1 L_alike_p2) L_alike_i2 (List.zip [0, 1, 2, 3, 9, 10] [.pointer p957, .pointer p958, .int .i64 n959, .int .i64 n960, .int .i64 n961, .int .i64 n962]) H (fun x e' H' => K x (clean e' ((⟨[0, 1, 2, 3, 9, 10], [], [8]⟩ : Out).of x)) H') = L_alike_p2_b cblk_Block_Value R14_Block_Value cblk_Block_Significant R14_Block_Significant cblk_Block_Touched R14_Block_Touched cblk_Block_Refined R14_Block_Refined k p957 p958 n959 n960 n961 n962 H (fun p1559 p1560 n1561 n1562 n1563 n1564 H => K .normal [(0, .pointer p1559), (1, .pointer p1560), (2, .int .i64 n1561), (3, .int .i64 n1562), (9, .int .i64 n1563), (10, .int .i64 n1564)] H) (fun t1565 H => K .ret [(8, .bool t1565)] H) := by kernel_rfl
theorem L_alike_j2 {R : Type} (k : Nat) : JS Try.prog 63 (L_alike_a2 R k k) [0, 1, 2, 3, 9, 10] ⟨[0, 1, 2, 3, 9, 10], [], [8]⟩ (sel [1, 0, 1, 0, 0, 1, 0, 0, 1, 0, 0, 1, 0] (Try.f39.body.getD .skip)) :=
  piece_ok (nt := 63) (c := (sel [1, 0, 1, 0, 0, 1, 0, 0, 1, 0, 0, 1, 0] (Try.f39.body.getD .skip))) (C := L_alike_C R k) (an := An) (t := (.node (.seq (.reg [0, 1, 2, 3, 9, 10, 62] []) (.cond (.seq (.reg [8] []) .leaf) .leaf)))) (ic := L_alike_i2) (L_alike_S R k) (L_alike_J R k) (by kernel_rfl) (And.intro True.intro (And.intro (And.intro True.intro True.intro) True.intro)) (L_alike_a2 R k k)
    (fun vals H K r h => by
      unfold L_alike_a2 L_alike_aa2 at h
      split at h <;> first | (cases h; done) | exact Eq.trans (L_alike_e2 (cblk_Block_Value k) R14_Block_Value (cblk_Block_Significant k) R14_Block_Significant (cblk_Block_Touched k) R14_Block_Touched (cblk_Block_Refined k) R14_Block_Refined (L_alike_l0 k) (L_alike_l1 k) (L_alike_p2 k) k _ _ _ _ _ _ H K) h)
theorem L_alike_e1 {R : Type} (cblk_Block_Value : Option Addr → Int → Int → Heap → (Int → Option R) → Option R) (R14_Block_Value : Option Addr → Int → Int → Heap → (Int → Heap → Option R) → Option R) (cblk_Block_Significant : Option Addr → Int → Int → Heap → (Bool → Option R) → Option R) (R14_Block_Significant : Option Addr → Int → Int → Heap → (Bool → Heap → Option R) → Option R) (cblk_Block_Touched : Option Addr → Int → Int → Heap → (Bool → Option R) → Option R) (R14_Block_Touched : Option Addr → Int → Int → Heap → (Bool → Heap → Option R) → Option R) (cblk_Block_Refined : Option Addr → Int → Int → Heap → (Bool → Option R) → Option R) (R14_Block_Refined : Option Addr → Int → Int → Heap → (Bool → Heap → Option R) → Option R) (L_alike_l0 : (Heap → Option R) → (Bool → Heap → Option R) → Nat → Option Addr → Option Addr → Int → Int → Int → Heap → Option R) (L_alike_l1 : (Option Addr → Option Addr → Int → Int → Int → Heap → Option R) → (Bool → Heap → Option R) → Nat → Option Addr → Option Addr → Int → Int → Int → Int → Heap → Option R) (L_alike_p2 : Option Addr → Option Addr → Int → Int → Int → Int → Heap → (Option Addr → Option Addr → Int → Int → Int → Int → Heap → Option R) → (Bool → Heap → Option R) → Option R) (k n : Nat) (p951 : Option Addr) (p952 : Option Addr) (n953 : Int) (n954 : Int) (n955 : Int) (n956 : Int) (H : Heap) (K : Xit → Env → Heap → Option R) : evJ (L_alike_Ct cblk_Block_Value R14_Block_Value cblk_Block_Significant R14_Block_Significant cblk_Block_Touched R14_Block_Touched cblk_Block_Refined R14_Block_Refined) (L_alike_Jt k L_alike_l0 L_alike_l1 L_alike_p2) L_alike_i1 (List.zip [0, 1, 2, 3, 9, 10] [.pointer p951, .pointer p952, .int .i64 n953, .int .i64 n954, .int .i64 n955, .int .i64 n956]) H (fun x e' H' => match x with | .normal => L_alike_aa1 L_alike_l1 n ((clean e' [0, 1, 2, 3, 9, 10]).map (·.2)) H' K | x => K x (clean e' ((⟨[], [(2, [0, 1, 2, 3, 9])], [8]⟩ : Out).of x)) H') = L_alike_l1_b L_alike_p2 (L_alike_l1 (fun p1553 p1554 n1555 n1556 n1557 H => K (.exit 2) [(0, .pointer p1553), (1, .pointer p1554), (2, .int .i64 n1555), (3, .int .i64 n1556), (9, .int .i64 n1557)] H) (fun t1558 H => K .ret [(8, .bool t1558)] H) n) (fun p1553 p1554 n1555 n1556 n1557 H => K (.exit 2) [(0, .pointer p1553), (1, .pointer p1554), (2, .int .i64 n1555), (3, .int .i64 n1556), (9, .int .i64 n1557)] H) (fun t1558 H => K .ret [(8, .bool t1558)] H) k p951 p952 n953 n954 n955 n956 H := by kernel_rfl
theorem L_alike_j1 {R : Type} (k : Nat) : JS Try.prog 63 (L_alike_a1 R k k) [0, 1, 2, 3, 9, 10] ⟨[], [(2, [0, 1, 2, 3, 9])], [8]⟩ (.loop (sel [1, 0, 1, 0, 0, 1, 0, 0, 1, 0, 0] (Try.f39.body.getD .skip))) :=
  loop_ok (nt := 63) (c := (sel [1, 0, 1, 0, 0, 1, 0, 0, 1, 0, 0] (Try.f39.body.getD .skip))) (C := L_alike_C R k) (an := An) (t := (.seq (.seq (.reg [0, 1, 2, 3, 9, 10, 18] []) (.cond .leaf .leaf)) (.seq (.opq 2 [0, 1, 2, 3, 9, 10] ⟨[0, 1, 2, 3, 9, 10], [], [8]⟩ (.node (.seq (.reg [0, 1, 2, 3, 9, 10, 62] []) (.cond (.seq (.reg [8] []) .leaf) .leaf)))) (.reg [0, 1, 2, 3, 9, 10] [])))) (ic := L_alike_i1) (L_alike_S R k) (L_alike_J R k) (by kernel_rfl) (And.intro (And.intro True.intro (And.intro True.intro True.intro)) (And.intro (L_alike_j2 k) True.intro)) (L_alike_a1 R k) (fun vals H K => by unfold L_alike_a1 L_alike_aa1; split <;> rfl)
    (fun n vals H K r h => by
      unfold L_alike_a1 L_alike_aa1 at h
      split at h <;> first | (cases h; done) | exact Eq.trans (L_alike_e1 (cblk_Block_Value k) R14_Block_Value (cblk_Block_Significant k) R14_Block_Significant (cblk_Block_Touched k) R14_Block_Touched (cblk_Block_Refined k) R14_Block_Refined (L_alike_l0 k) (L_alike_l1 k) (L_alike_p2 k) k n _ _ _ _ _ _ H K) h) k
theorem L_alike_e0 {R : Type} (cblk_Block_Value : Option Addr → Int → Int → Heap → (Int → Option R) → Option R) (R14_Block_Value : Option Addr → Int → Int → Heap → (Int → Heap → Option R) → Option R) (cblk_Block_Significant : Option Addr → Int → Int → Heap → (Bool → Option R) → Option R) (R14_Block_Significant : Option Addr → Int → Int → Heap → (Bool → Heap → Option R) → Option R) (cblk_Block_Touched : Option Addr → Int → Int → Heap → (Bool → Option R) → Option R) (R14_Block_Touched : Option Addr → Int → Int → Heap → (Bool → Heap → Option R) → Option R) (cblk_Block_Refined : Option Addr → Int → Int → Heap → (Bool → Option R) → Option R) (R14_Block_Refined : Option Addr → Int → Int → Heap → (Bool → Heap → Option R) → Option R) (L_alike_l0 : (Heap → Option R) → (Bool → Heap → Option R) → Nat → Option Addr → Option Addr → Int → Int → Int → Heap → Option R) (L_alike_l1 : (Option Addr → Option Addr → Int → Int → Int → Heap → Option R) → (Bool → Heap → Option R) → Nat → Option Addr → Option Addr → Int → Int → Int → Int → Heap → Option R) (L_alike_p2 : Option Addr → Option Addr → Int → Int → Int → Int → Heap → (Option Addr → Option Addr → Int → Int → Int → Int → Heap → Option R) → (Bool → Heap → Option R) → Option R) (k n : Nat) (p946 : Option Addr) (p947 : Option Addr) (n948 : Int) (n949 : Int) (n950 : Int) (H : Heap) (K : Xit → Env → Heap → Option R) : evJ (L_alike_Ct cblk_Block_Value R14_Block_Value cblk_Block_Significant R14_Block_Significant cblk_Block_Touched R14_Block_Touched cblk_Block_Refined R14_Block_Refined) (L_alike_Jt k L_alike_l0 L_alike_l1 L_alike_p2) L_alike_i0 (List.zip [0, 1, 2, 3, 9] [.pointer p946, .pointer p947, .int .i64 n948, .int .i64 n949, .int .i64 n950]) H (fun x e' H' => match x with | .normal => L_alike_aa0 L_alike_l0 n ((clean e' [0, 1, 2, 3, 9]).map (·.2)) H' K | x => K x (clean e' ((⟨[], [(0, [])], [8]⟩ : Out).of x)) H') = L_alike_l0_b L_alike_l1 (L_alike_l0 (fun H => K (.exit 0) [] H) (fun t1552 H => K .ret [(8, .bool t1552)] H) n) (fun H => K (.exit 0) [] H) (fun t1552 H => K .ret [(8, .bool t1552)] H) k p946 p947 n948 n949 n950 H := by kernel_rfl
theorem L_alike_j0 {R : Type} (k : Nat) : JS Try.prog 63 (L_alike_a0 R k k) [0, 1, 2, 3, 9] ⟨[], [(0, [])], [8]⟩ (.loop (sel [1, 0, 1, 0, 0] (Try.f39.body.getD .skip))) :=
  loop_ok (nt := 63) (c := (sel [1, 0, 1, 0, 0] (Try.f39.body.getD .skip))) (C := L_alike_C R k) (an := An) (t := (.seq (.seq (.reg [0, 1, 2, 3, 9, 13] []) (.cond .leaf .leaf)) (.seq (.node (.seq (.reg [0, 1, 2, 3, 9, 10] []) (.node (.opq 1 [0, 1, 2, 3, 9, 10] ⟨[], [(2, [0, 1, 2, 3, 9])], [8]⟩ (.node (.seq (.seq (.reg [0, 1, 2, 3, 9, 10, 18] []) (.cond .leaf .leaf)) (.seq (.opq 2 [0, 1, 2, 3, 9, 10] ⟨[0, 1, 2, 3, 9, 10], [], [8]⟩ (.node (.seq (.reg [0, 1, 2, 3, 9, 10, 62] []) (.cond (.seq (.reg [8] []) .leaf) .leaf)))) (.reg [0, 1, 2, 3, 9, 10] [])))))))) (.reg [0, 1, 2, 3, 9] [])))) (ic := L_alike_i0) (L_alike_S R k) (L_alike_J R k) (by kernel_rfl) (And.intro (And.intro True.intro (And.intro True.intro True.intro)) (And.intro (And.intro True.intro (L_alike_j1 k)) True.intro)) (L_alike_a0 R k) (fun vals H K => by unfold L_alike_a0 L_alike_aa0; split <;> rfl)
    (fun n vals H K r h => by
      unfold L_alike_a0 L_alike_aa0 at h
      split at h <;> first | (cases h; done) | exact Eq.trans (L_alike_e0 (cblk_Block_Value k) R14_Block_Value (cblk_Block_Significant k) R14_Block_Significant (cblk_Block_Touched k) R14_Block_Touched (cblk_Block_Refined k) R14_Block_Refined (L_alike_l0 k) (L_alike_l1 k) (L_alike_p2 k) k n _ _ _ _ _ H K) h) k
def L_alike_ca {R : Type} (f : Option Addr → Option Addr → Int → Int → Heap → (Bool → Heap → Option R) → Option R) (args : List Value) (H : Heap) (K : Value → Heap → Option R) : Option R :=
  match args with
  | [.pointer p942, .pointer p943, .int .i64 n944, .int .i64 n945] => f p942 p943 n944 n945 H (fun t1566 H => K (.bool t1566) H)
  | _ => none
def L_alike_c (R : Type) (k : Nat) (args : List Value) (H : Heap) (K : Value → Heap → Option R) : Option R := L_alike_ca (L_alike k) args H K
theorem L_alike_e {R : Type} (cblk_Block_Value : Option Addr → Int → Int → Heap → (Int → Option R) → Option R) (R14_Block_Value : Option Addr → Int → Int → Heap → (Int → Heap → Option R) → Option R) (cblk_Block_Significant : Option Addr → Int → Int → Heap → (Bool → Option R) → Option R) (R14_Block_Significant : Option Addr → Int → Int → Heap → (Bool → Heap → Option R) → Option R) (cblk_Block_Touched : Option Addr → Int → Int → Heap → (Bool → Option R) → Option R) (R14_Block_Touched : Option Addr → Int → Int → Heap → (Bool → Heap → Option R) → Option R) (cblk_Block_Refined : Option Addr → Int → Int → Heap → (Bool → Option R) → Option R) (R14_Block_Refined : Option Addr → Int → Int → Heap → (Bool → Heap → Option R) → Option R) (L_alike_l0 : (Heap → Option R) → (Bool → Heap → Option R) → Nat → Option Addr → Option Addr → Int → Int → Int → Heap → Option R) (L_alike_l1 : (Option Addr → Option Addr → Int → Int → Int → Heap → Option R) → (Bool → Heap → Option R) → Nat → Option Addr → Option Addr → Int → Int → Int → Int → Heap → Option R) (L_alike_p2 : Option Addr → Option Addr → Int → Int → Int → Int → Heap → (Option Addr → Option Addr → Int → Int → Int → Int → Heap → Option R) → (Bool → Heap → Option R) → Option R) (k : Nat) (p942 : Option Addr) (p943 : Option Addr) (n944 : Int) (n945 : Int) (H : Heap) (K : Value → Heap → Option R) : evF (L_alike_Ct cblk_Block_Value R14_Block_Value cblk_Block_Significant R14_Block_Significant cblk_Block_Touched R14_Block_Touched cblk_Block_Refined R14_Block_Refined) (L_alike_Jt k L_alike_l0 L_alike_l1 L_alike_p2) L_alike_f [.pointer p942, .pointer p943, .int .i64 n944, .int .i64 n945] H K = L_alike_b L_alike_l0 k p942 p943 n944 n945 H (fun t1566 H => K (.bool t1566) H) := by kernel_rfl
theorem L_alike_cs (R : Type) (k : Nat) : ∀ args H K r, L_alike_c R k args H K = some r → ∃ v H', Tri Try.prog 39 args H v H' ∧ K v H' = some r := by
  intro args H K r h
  unfold L_alike_c L_alike_ca at h
  split at h
  · exact evF_ok (C := L_alike_C R k) (an := An) (t := L_alike_at) (fn := Try.f39) (c := (Try.f39.body.getD .skip)) (ifn := L_alike_f) (L_alike_S R k) (L_alike_J R k) Try.func39 (by kernel_rfl) (by kernel_rfl) (And.intro True.intro (And.intro (And.intro True.intro (L_alike_j0 k)) (And.intro True.intro True.intro))) rfl (Eq.trans (L_alike_e (cblk_Block_Value k) R14_Block_Value (cblk_Block_Significant k) R14_Block_Significant (cblk_Block_Touched k) R14_Block_Touched (cblk_Block_Refined k) R14_Block_Refined (L_alike_l0 k) (L_alike_l1 k) (L_alike_p2 k) k _ _ _ _ H K) h)
  · cases h
/-! ### L_CblkPlays: function 9 -/
def L_CblkPlays_p0_b {R : Type} (k : Nat) (n826 : Int) (n827 : Int) (q828 : Option Addr) (l829 : Nat) (c830 : Nat) (p831 : Option Addr) (n832 : Int) (p833 : Option Addr) (n834 : Int) (KN : Int → Int → Option Addr → Nat → Nat → Option Addr → Int → Option Addr → Option R) (KR : Bool → Option R) : Option R :=
bif (n832 != n834) then (KR false)
 else (bif (n832 != 0) then (bif p831.isSome then (KR false)
 else (KN n826 n827 q828 l829 c830 p831 n832 p833))
 else (KN n826 n827 q828 l829 c830 p831 n832 p833))
def L_CblkPlays_p0 {R : Type} (k : Nat) (n826 : Int) (n827 : Int) (q828 : Option Addr) (l829 : Nat) (c830 : Nat) (p831 : Option Addr) (n832 : Int) (p833 : Option Addr) (n834 : Int) (KN : Int → Int → Option Addr → Nat → Nat → Option Addr → Int → Option Addr → Option R) (KR : Bool → Option R) : Option R := L_CblkPlays_p0_b k n826 n827 q828 l829 c830 p831 n832 p833 n834 KN KR

def L_CblkPlays_p1_b {R : Type} (k : Nat) (n855 : Int) (n856 : Int) (q857 : Option Addr) (l858 : Nat) (c859 : Nat) (p860 : Option Addr) (p861 : Option Addr) (n862 : Int) (n863 : Int) (KN : Int → Int → Option Addr → Nat → Nat → Option Addr → Option Addr → Option R) (KR : Bool → Option R) : Option R :=
bif (n862 != n855) then (KR false)
 else (bif (n863 != n856) then (KR false)
 else (KN n855 n856 q857 l858 c859 p860 p861))
def L_CblkPlays_p1 {R : Type} (k : Nat) (n855 : Int) (n856 : Int) (q857 : Option Addr) (l858 : Nat) (c859 : Nat) (p860 : Option Addr) (p861 : Option Addr) (n862 : Int) (n863 : Int) (KN : Int → Int → Option Addr → Nat → Nat → Option Addr → Option Addr → Option R) (KR : Bool → Option R) : Option R := L_CblkPlays_p1_b k n855 n856 q857 l858 c859 p860 p861 n862 n863 KN KR

def L_CblkPlays_p2_b {R : Type} (k : Nat) (n879 : Int) (n880 : Int) (q881 : Option Addr) (l882 : Nat) (c883 : Nat) (p884 : Option Addr) (p885 : Option Addr) (KN : Int → Int → Option Addr → Nat → Nat → Option Addr → Option Addr → Bool → Option R) : Option R :=
bif decide (n879 > 12) then (KN n879 n880 q881 l882 c883 p884 p885 true)
 else (bif decide (n880 > 12) then (KN n879 n880 q881 l882 c883 p884 p885 true)
 else (KN n879 n880 q881 l882 c883 p884 p885 (decide (((l882 : Nat) : Int) > 40))))
def L_CblkPlays_p2 {R : Type} (k : Nat) (n879 : Int) (n880 : Int) (q881 : Option Addr) (l882 : Nat) (c883 : Nat) (p884 : Option Addr) (p885 : Option Addr) (KN : Int → Int → Option Addr → Nat → Nat → Option Addr → Option Addr → Bool → Option R) : Option R := L_CblkPlays_p2_b k n879 n880 q881 l882 c883 p884 p885 KN

def L_CblkPlays_p4_b {R : Type} (L_do : Option Addr → Int → Int → Int → Int → Heap → (Int → Heap → Option R) → Option R) (L_want : Option Addr → Int → Int → Int → Int → Heap → (Int → Heap → Option R) → Option R) (L_alike : Option Addr → Option Addr → Int → Int → Heap → (Bool → Heap → Option R) → Option R) (k : Nat) (n911 : Int) (n912 : Int) (q913 : Option Addr) (l914 : Nat) (c915 : Nat) (p916 : Option Addr) (p917 : Option Addr) (n918 : Int) (H : Heap) (KN : Int → Int → Option Addr → Nat → Nat → Option Addr → Option Addr → Int → Heap → Option R) (KR : Bool → Heap → Option R) : Option R :=
hidx q913 l914 n918 4 fun p919 =>
ldI .i64 H (pad p919 0) fun n920 =>
ldI .i64 H (pad p919 1) fun n921 =>
ldI .i64 H (pad p919 2) fun n922 =>
ldI .i64 H (pad p919 3) fun n923 =>
L_do p916 n920 n921 n922 n923 H fun n924 H925 =>
hidx q913 l914 n918 4 fun p926 =>
bif isRo H p926 then (ldI .i64 H (pad p926 0) fun n927 =>
ldI .i64 H (pad p926 1) fun n928 =>
ldI .i64 H (pad p926 2) fun n929 =>
ldI .i64 H (pad p926 3) fun n930 =>
L_want p917 n927 n928 n929 n930 H925 fun n931 H932 =>
bif (n924 != n931) then (KR false H932)
 else (L_alike p916 p917 n911 n912 H932 fun t933 H934 =>
bif (!t933) then (KR false H934)
 else (KN n911 n912 q913 l914 c915 p916 p917 n918 H934)))
 else none
def L_CblkPlays_p4 {R : Type} (k : Nat) (n911 : Int) (n912 : Int) (q913 : Option Addr) (l914 : Nat) (c915 : Nat) (p916 : Option Addr) (p917 : Option Addr) (n918 : Int) (H : Heap) (KN : Int → Int → Option Addr → Nat → Nat → Option Addr → Option Addr → Int → Heap → Option R) (KR : Bool → Heap → Option R) : Option R := L_CblkPlays_p4_b (L_do k) (L_want k) (L_alike k) k n911 n912 q913 l914 c915 p916 p917 n918 H KN KR

def L_CblkPlays_l3_b {R : Type} (L_CblkPlays_p4 : Int → Int → Option Addr → Nat → Nat → Option Addr → Option Addr → Int → Heap → (Int → Int → Option Addr → Nat → Nat → Option Addr → Option Addr → Int → Heap → Option R) → (Bool → Heap → Option R) → Option R) (rec : Int → Int → Option Addr → Nat → Nat → Option Addr → Option Addr → Int → Heap → Option R) (KE0 : Int → Int → Option Addr → Option Addr → Heap → Option R) (KR : Bool → Heap → Option R) (k : Nat) (n903 : Int) (n904 : Int) (q905 : Option Addr) (l906 : Nat) (c907 : Nat) (p908 : Option Addr) (p909 : Option Addr) (n910 : Int) (H : Heap) : Option R :=
bif decide (n910 < ((l906 : Nat) : Int)) then (L_CblkPlays_p4 n903 n904 q905 l906 c907 p908 p909 n910 H (fun n944 n945 q946 l947 c948 p949 p950 n951 H952 =>
rec n944 n945 q946 l947 c948 p949 p950 (IntKind.wrap .i64 (n951 + 1)) H952) (fun t953 H954 =>
KR t953 H954))
 else (KE0 n903 n904 p908 p909 H)
def L_CblkPlays_l3 {R : Type} (k : Nat) (KE0 : Int → Int → Option Addr → Option Addr → Heap → Option R) (KR : Bool → Heap → Option R) : Nat → Int → Int → Option Addr → Nat → Nat → Option Addr → Option Addr → Int → Heap → Option R
  | 0, _, _, _, _, _, _, _, _, _ => none
  | n + 1, n903, n904, q905, l906, c907, p908, p909, n910, H => L_CblkPlays_l3_b (L_CblkPlays_p4 k) (L_CblkPlays_l3 k KE0 KR n) KE0 KR k n903 n904 q905 l906 c907 p908 p909 n910 H

def L_CblkPlays_b {R : Type} (cblk_New : Int → Int → Heap → (Option Addr → Int → Heap → Option R) → Option R) (R14_New : Int → Int → Heap → (Option Addr → Int → Heap → Option R) → Option R) (L_CblkPlays_p0 : Int → Int → Option Addr → Nat → Nat → Option Addr → Int → Option Addr → Int → (Int → Int → Option Addr → Nat → Nat → Option Addr → Int → Option Addr → Option R) → (Bool → Option R) → Option R) (cblk_Block_Size : Option Addr → Heap → (Int → Int → Option R) → Option R) (L_exampleHoldsq : (Bool → Option R) → Option R) (L_CblkPlays_p1 : Int → Int → Option Addr → Nat → Nat → Option Addr → Option Addr → Int → Int → (Int → Int → Option Addr → Nat → Nat → Option Addr → Option Addr → Option R) → (Bool → Option R) → Option R) (L_CblkPlays_p2 : Int → Int → Option Addr → Nat → Nat → Option Addr → Option Addr → (Int → Int → Option Addr → Nat → Nat → Option Addr → Option Addr → Bool → Option R) → Option R) (L_CblkPlays_l3 : (Int → Int → Option Addr → Option Addr → Heap → Option R) → (Bool → Heap → Option R) → Nat → Int → Int → Option Addr → Nat → Nat → Option Addr → Option Addr → Int → Heap → Option R) (L_alike : Option Addr → Option Addr → Int → Int → Heap → (Bool → Heap → Option R) → Option R) (k : Nat) (n815 : Int) (n816 : Int) (q817 : Option Addr) (l818 : Nat) (c819 : Nat) (H : Heap) (K : Bool → Heap → Option R) : Option R :=
cblk_New n815 n816 H fun p820 n821 H822 =>
R14_New n815 n816 H822 fun p823 n824 H825 =>
L_CblkPlays_p0 n815 n816 q817 l818 c819 p820 n821 p823 n824 (fun n844 n845 q846 l847 c848 p849 n850 p851 =>
cblk_Block_Size p849 H825 fun n852 n853 =>
bif (n850 != 0) then (bif (n852 == 0) then (bif (n853 == 0) then (L_exampleHoldsq fun t854 =>
K t854 H825)
 else (K false H825))
 else (K false H825))
 else (L_CblkPlays_p1 n844 n845 q846 l847 c848 p849 p851 n852 n853 (fun n872 n873 q874 l875 c876 p877 p878 =>
L_CblkPlays_p2 n872 n873 q874 l875 c876 p877 p878 (fun n894 n895 q896 l897 c898 p899 p900 t901 =>
bif t901 then (L_exampleHoldsq fun t902 =>
K t902 H825)
 else (L_CblkPlays_l3 (fun n960 n961 p962 p963 H964 =>
L_alike p962 p963 n960 n961 H964 fun t965 H966 =>
bif t965 then (L_exampleHoldsq fun t967 =>
K t967 H966)
 else (K false H966)) (fun t968 H969 =>
K t968 H969) k n894 n895 q896 l897 c898 p899 p900 0 H825))) (fun t970 =>
K t970 H825))) (fun t971 =>
K t971 H825)

def L_CblkPlays {R : Type} (k : Nat) (n815 : Int) (n816 : Int) (q817 : Option Addr) (l818 : Nat) (c819 : Nat) (H : Heap) (K : Bool → Heap → Option R) : Option R := L_CblkPlays_b cblk_New R14_New (L_CblkPlays_p0 k) cblk_Block_Size L_exampleHoldsq (L_CblkPlays_p1 k) (L_CblkPlays_p2 k) (L_CblkPlays_l3 k) (L_alike k) k n815 n816 q817 l818 c819 H K

def L_CblkPlays_Ct {R : Type} (cblk_New : Int → Int → Heap → (Option Addr → Int → Heap → Option R) → Option R) (R14_New : Int → Int → Heap → (Option Addr → Int → Heap → Option R) → Option R) (cblk_Block_Size : Option Addr → Heap → (Int → Int → Option R) → Option R) (L_exampleHoldsq : (Bool → Option R) → Option R) (L_do : Option Addr → Int → Int → Int → Int → Heap → (Int → Heap → Option R) → Option R) (L_want : Option Addr → Int → Int → Int → Int → Heap → (Int → Heap → Option R) → Option R) (L_alike : Option Addr → Option Addr → Int → Int → Heap → (Bool → Heap → Option R) → Option R) : Tab R := tcons 31 (cblk_New_ca cblk_New) <| tcons 36 (R14_New_ca R14_New) <| tcons 37 (cblk_Block_Size_ca cblk_Block_Size) <| tcons 14 (L_exampleHoldsq_ca L_exampleHoldsq) <| tcons 32 (L_do_ca L_do) <| tcons 38 (L_want_ca L_want) <| tcons 39 (L_alike_ca L_alike) <| fun _ _ _ _ => none
def L_CblkPlays_C (R : Type) (k : Nat) : Tab R := L_CblkPlays_Ct cblk_New R14_New cblk_Block_Size L_exampleHoldsq (L_do k) (L_want k) (L_alike k)
theorem L_CblkPlays_S (R : Type) (k : Nat) : CSound Try.prog (L_CblkPlays_C R k) := csound_cons (cblk_New_cs R k) <| csound_cons (R14_New_cs R k) <| csound_cons (cblk_Block_Size_cs R k) <| csound_cons (L_exampleHoldsq_cs R k) <| csound_cons (L_do_cs R k) <| csound_cons (L_want_cs R k) <| csound_cons (L_alike_cs R k) <| csound_nil
def L_CblkPlays_aa0 {R : Type} (f : Int → Int → Option Addr → Nat → Nat → Option Addr → Int → Option Addr → Int → (Int → Int → Option Addr → Nat → Nat → Option Addr → Int → Option Addr → Option R) → (Bool → Option R) → Option R) (n : Nat) (vals : List Value) (H : Heap) (K : Xit → Env → Heap → Option R) : Option R :=
  match vals with
  | [.int .i64 n826, .int .i64 n827, .slice q828 l829 c830, .pointer p831, .int .i64 n832, .pointer p833, .int .i64 n834] => f n826 n827 q828 l829 c830 p831 n832 p833 n834 (fun n1567 n1568 q1569 l1570 c1571 p1572 n1573 p1574 => K .normal [(0, .int .i64 n1567), (1, .int .i64 n1568), (2, .slice q1569 l1570 c1571), (7, .pointer p1572), (8, .int .i64 n1573), (9, .pointer p1574)] H) (fun t1575 => K .ret [(6, .bool t1575)] H)
  | _ => none
def L_CblkPlays_a0 (R : Type) (k n : Nat) (vals : List Value) (H : Heap) (K : Xit → Env → Heap → Option R) : Option R := L_CblkPlays_aa0 (L_CblkPlays_p0 k) n vals H K
def L_CblkPlays_aa1 {R : Type} (f : Int → Int → Option Addr → Nat → Nat → Option Addr → Option Addr → Int → Int → (Int → Int → Option Addr → Nat → Nat → Option Addr → Option Addr → Option R) → (Bool → Option R) → Option R) (n : Nat) (vals : List Value) (H : Heap) (K : Xit → Env → Heap → Option R) : Option R :=
  match vals with
  | [.int .i64 n855, .int .i64 n856, .slice q857 l858 c859, .pointer p860, .pointer p861, .int .i64 n862, .int .i64 n863] => f n855 n856 q857 l858 c859 p860 p861 n862 n863 (fun n1576 n1577 q1578 l1579 c1580 p1581 p1582 => K .normal [(0, .int .i64 n1576), (1, .int .i64 n1577), (2, .slice q1578 l1579 c1580), (7, .pointer p1581), (9, .pointer p1582)] H) (fun t1583 => K .ret [(6, .bool t1583)] H)
  | _ => none
def L_CblkPlays_a1 (R : Type) (k n : Nat) (vals : List Value) (H : Heap) (K : Xit → Env → Heap → Option R) : Option R := L_CblkPlays_aa1 (L_CblkPlays_p1 k) n vals H K
def L_CblkPlays_aa2 {R : Type} (f : Int → Int → Option Addr → Nat → Nat → Option Addr → Option Addr → (Int → Int → Option Addr → Nat → Nat → Option Addr → Option Addr → Bool → Option R) → Option R) (n : Nat) (vals : List Value) (H : Heap) (K : Xit → Env → Heap → Option R) : Option R :=
  match vals with
  | [.int .i64 n879, .int .i64 n880, .slice q881 l882 c883, .pointer p884, .pointer p885] => f n879 n880 q881 l882 c883 p884 p885 (fun n1584 n1585 q1586 l1587 c1588 p1589 p1590 t1591 => K .normal [(0, .int .i64 n1584), (1, .int .i64 n1585), (2, .slice q1586 l1587 c1588), (7, .pointer p1589), (9, .pointer p1590), (71, .bool t1591)] H)
  | _ => none
def L_CblkPlays_a2 (R : Type) (k n : Nat) (vals : List Value) (H : Heap) (K : Xit → Env → Heap → Option R) : Option R := L_CblkPlays_aa2 (L_CblkPlays_p2 k) n vals H K
def L_CblkPlays_aa3 {R : Type} (f : (Int → Int → Option Addr → Option Addr → Heap → Option R) → (Bool → Heap → Option R) → Nat → Int → Int → Option Addr → Nat → Nat → Option Addr → Option Addr → Int → Heap → Option R) (n : Nat) (vals : List Value) (H : Heap) (K : Xit → Env → Heap → Option R) : Option R :=
  match vals with
  | [.int .i64 n903, .int .i64 n904, .slice q905 l906 c907, .pointer p908, .pointer p909, .int .i64 n910] => f (fun n1592 n1593 p1594 p1595 H => K (.exit 0) [(0, .int .i64 n1592), (1, .int .i64 n1593), (7, .pointer p1594), (9, .pointer p1595)] H) (fun t1596 H => K .ret [(6, .bool t1596)] H) n n903 n904 q905 l906 c907 p908 p909 n910 H
  | _ => none
def L_CblkPlays_a3 (R : Type) (k n : Nat) (vals : List Value) (H : Heap) (K : Xit → Env → Heap → Option R) : Option R := L_CblkPlays_aa3 (L_CblkPlays_l3 k) n vals H K
def L_CblkPlays_aa4 {R : Type} (f : Int → Int → Option Addr → Nat → Nat → Option Addr → Option Addr → Int → Heap → (Int → Int → Option Addr → Nat → Nat → Option Addr → Option Addr → Int → Heap → Option R) → (Bool → Heap → Option R) → Option R) (n : Nat) (vals : List Value) (H : Heap) (K : Xit → Env → Heap → Option R) : Option R :=
  match vals with
  | [.int .i64 n911, .int .i64 n912, .slice q913 l914 c915, .pointer p916, .pointer p917, .int .i64 n918] => f n911 n912 q913 l914 c915 p916 p917 n918 H (fun n1597 n1598 q1599 l1600 c1601 p1602 p1603 n1604 H => K .normal [(0, .int .i64 n1597), (1, .int .i64 n1598), (2, .slice q1599 l1600 c1601), (7, .pointer p1602), (9, .pointer p1603), (13, .int .i64 n1604)] H) (fun t1605 H => K .ret [(6, .bool t1605)] H)
  | _ => none
def L_CblkPlays_a4 (R : Type) (k n : Nat) (vals : List Value) (H : Heap) (K : Xit → Env → Heap → Option R) : Option R := L_CblkPlays_aa4 (L_CblkPlays_p4 k) n vals H K
def L_CblkPlays_Jt {R : Type} (k : Nat) (L_CblkPlays_p0 : Int → Int → Option Addr → Nat → Nat → Option Addr → Int → Option Addr → Int → (Int → Int → Option Addr → Nat → Nat → Option Addr → Int → Option Addr → Option R) → (Bool → Option R) → Option R) (L_CblkPlays_p1 : Int → Int → Option Addr → Nat → Nat → Option Addr → Option Addr → Int → Int → (Int → Int → Option Addr → Nat → Nat → Option Addr → Option Addr → Option R) → (Bool → Option R) → Option R) (L_CblkPlays_p2 : Int → Int → Option Addr → Nat → Nat → Option Addr → Option Addr → (Int → Int → Option Addr → Nat → Nat → Option Addr → Option Addr → Bool → Option R) → Option R) (L_CblkPlays_l3 : (Int → Int → Option Addr → Option Addr → Heap → Option R) → (Bool → Heap → Option R) → Nat → Int → Int → Option Addr → Nat → Nat → Option Addr → Option Addr → Int → Heap → Option R) (L_CblkPlays_p4 : Int → Int → Option Addr → Nat → Nat → Option Addr → Option Addr → Int → Heap → (Int → Int → Option Addr → Nat → Nat → Option Addr → Option Addr → Int → Heap → Option R) → (Bool → Heap → Option R) → Option R) : JTab R := tcons 0 (L_CblkPlays_aa0 L_CblkPlays_p0 k) <| tcons 1 (L_CblkPlays_aa1 L_CblkPlays_p1 k) <| tcons 2 (L_CblkPlays_aa2 L_CblkPlays_p2 k) <| tcons 3 (L_CblkPlays_aa3 L_CblkPlays_l3 k) <| tcons 4 (L_CblkPlays_aa4 L_CblkPlays_p4 k) <| fun _ _ _ _ => none
def L_CblkPlays_J (R : Type) (k : Nat) : JTab R := L_CblkPlays_Jt k (L_CblkPlays_p0 k) (L_CblkPlays_p1 k) (L_CblkPlays_p2 k) (L_CblkPlays_l3 k) (L_CblkPlays_p4 k)
def L_CblkPlays_at : AT := (.seq (.reg [0, 1, 2] []) (.seq (.reg [0, 1, 2, 7, 8] []) (.seq (.reg [0, 1, 2, 7, 8, 9, 10] []) (.seq (.opq 0 [0, 1, 2, 7, 8, 9, 10] ⟨[0, 1, 2, 7, 8, 9], [], [6]⟩ (.seq (.reg [0, 1, 2, 7, 8, 9, 36] []) (.cond (.seq (.reg [6] []) .leaf) .leaf))) (.seq (.reg [0, 1, 2, 7, 8, 9, 11, 12] []) (.seq (.seq (.reg [0, 1, 2, 7, 9, 11, 12, 43] []) (.cond (.seq (.reg [6] []) .leaf) .leaf)) (.seq (.opq 1 [0, 1, 2, 7, 9, 11, 12] ⟨[0, 1, 2, 7, 9], [], [6]⟩ (.seq (.reg [0, 1, 2, 7, 9, 60] []) (.cond (.seq (.reg [6] []) .leaf) .leaf))) (.seq (.seq (.opq 2 [0, 1, 2, 7, 9] ⟨[0, 1, 2, 7, 9, 71], [], []⟩ (.reg [0, 1, 2, 7, 9, 71] [])) (.cond (.seq (.reg [6] []) .leaf) .leaf)) (.seq (.seq (.reg [0, 1, 2, 7, 9, 13] []) (.node (.opq 3 [0, 1, 2, 7, 9, 13] ⟨[], [(0, [0, 1, 7, 9])], [6]⟩ (.node (.seq (.seq (.reg [0, 1, 2, 7, 9, 13, 76] []) (.cond .leaf .leaf)) (.seq (.opq 4 [0, 1, 2, 7, 9, 13] ⟨[0, 1, 2, 7, 9, 13], [], [6]⟩ (.node (.seq (.reg [0, 1, 2, 7, 9, 13, 99] [[], [], [], [1, 2], [1, 2, 3], [0, 1, 2, 3, 4], [], [], [], [7, 8], [7, 8, 9], [0, 1, 2, 3, 4, 5, 6, 7, 8, 9, 10], [0, 1, 2, 3, 4, 5, 6, 7, 8, 9, 10, 11], [0, 1, 2, 3, 4, 5, 6, 7, 8, 9, 10, 11, 12], [0, 1, 2, 3, 4, 5, 6, 7, 8, 9, 10, 11, 12, 13], [0, 1, 2, 3, 4, 5, 6, 7, 8, 9, 10, 11, 12, 13], [0, 1, 2, 3, 4, 5, 6, 7, 8, 9, 10, 11, 12, 13], [0, 1, 2, 3, 4, 5, 6, 7, 8, 9, 10, 11, 12, 13], [0, 1, 2, 3, 4, 5, 6, 7, 8, 9, 10, 11, 12, 13, 14, 15, 16, 17], [0, 1, 2, 3, 4, 5, 6, 7, 8, 9, 10, 11, 12, 13, 14, 15, 16, 17, 18], [0, 1, 2, 3, 4, 5, 6, 7, 8, 9, 10, 11, 12, 13, 14, 15, 16, 17, 18, 19]]) (.cond (.seq (.reg [6] []) .leaf) .leaf)))) (.reg [0, 1, 2, 7, 9, 13] []))))))) (.seq (.reg [6] []) .leaf))))))))))
def L_CblkPlays_i4 : IC := (.block 1 (.seq (.reg [⟨some 79, .mov (.t 7), none⟩,
 ⟨some 80, .mov (.t 2), none⟩,
 ⟨some 81, .mov (.t 13), none⟩,
 ⟨some 82, .ids 4 (.t 80) (.t 81), none⟩,
 ⟨some 83, .ld (.agg [(.int .i64), (.int .i64), (.int .i64), (.int .i64)]) (.t 82), none⟩,
 ⟨some 84, .call 32 [(.t 79), (.t 83)] (.one (.sc (.int .i64))), none⟩,
 ⟨some 85, .mov (.t 9), none⟩,
 ⟨some 86, .mov (.t 2), none⟩,
 ⟨some 87, .mov (.t 13), none⟩,
 ⟨some 88, .ids 4 (.t 86) (.t 87), none⟩,
 ⟨some 89, .ldr (.agg [(.int .i64), (.int .i64), (.int .i64), (.int .i64)]) (.t 88), none⟩,
 ⟨some 90, .call 38 [(.t 85), (.t 89)] (.one (.sc (.int .i64))), none⟩,
 ⟨some 91, .cmp .neq (.t 84) (.t 90), none⟩,
 ⟨some 92, .mov (.t 91), none⟩,
 ⟨some 93, .mov (.t 7), some (92, false)⟩,
 ⟨some 94, .mov (.t 9), some (92, false)⟩,
 ⟨some 95, .mov (.t 0), some (92, false)⟩,
 ⟨some 96, .mov (.t 1), some (92, false)⟩,
 ⟨some 97, .call 39 [(.t 93), (.t 94), (.t 95), (.t 96)] (.one (.sc .bool)), some (92, false)⟩,
 ⟨some 98, .lnot (.t 97), some (92, false)⟩,
 ⟨some 99, .pick (.t 92) (.c (Go.Value.bool true)) (.t 98), none⟩] [0, 1, 2, 7, 9, 13, 99]) (.cond (.t 99) (.seq (.reg [⟨some 6, .mov (.c (Go.Value.bool false)), none⟩] [6]) .ret) .skip)))
def L_CblkPlays_i3 : IC := (.seq (.seq (.reg [⟨some 73, .mov (.t 13), none⟩,
 ⟨some 74, .mov (.t 2), none⟩,
 ⟨some 75, .len false (.t 74), none⟩,
 ⟨some 76, .cmp .lss (.t 73) (.t 75), none⟩] [0, 1, 2, 7, 9, 13, 76]) (.cond (.t 76) .skip (.exit 0))) (.seq (.opq 4 [0, 1, 2, 7, 9, 13] L_CblkPlays_i4) (.reg [⟨some 77, .mov (.t 13), none⟩,
 ⟨some 78, .bin .add .i64 (.t 77) (.c (Go.Value.int Go.IntKind.i64 1)), none⟩,
 ⟨some 13, .mov (.t 78), none⟩] [0, 1, 2, 7, 9, 13])))
def L_CblkPlays_i2 : IC := (.reg [⟨some 61, .mov (.t 0), none⟩,
 ⟨some 62, .cmp .gtr (.t 61) (.c (Go.Value.int Go.IntKind.i64 12)), none⟩,
 ⟨some 63, .mov (.t 62), none⟩,
 ⟨some 64, .mov (.t 1), some (63, false)⟩,
 ⟨some 65, .cmp .gtr (.t 64) (.c (Go.Value.int Go.IntKind.i64 12)), some (63, false)⟩,
 ⟨some 66, .pick (.t 63) (.c (Go.Value.bool true)) (.t 65), none⟩,
 ⟨some 67, .mov (.t 66), none⟩,
 ⟨some 68, .mov (.t 2), some (67, false)⟩,
 ⟨some 69, .len false (.t 68), some (67, false)⟩,
 ⟨some 70, .cmp .gtr (.t 69) (.c (Go.Value.int Go.IntKind.i64 40)), some (67, false)⟩,
 ⟨some 71, .pick (.t 67) (.c (Go.Value.bool true)) (.t 70), none⟩] [0, 1, 2, 7, 9, 71])
def L_CblkPlays_i1 : IC := (.seq (.reg [⟨some 53, .mov (.t 11), none⟩,
 ⟨some 54, .mov (.t 0), none⟩,
 ⟨some 55, .cmp .neq (.t 53) (.t 54), none⟩,
 ⟨some 56, .mov (.t 55), none⟩,
 ⟨some 57, .mov (.t 12), some (56, false)⟩,
 ⟨some 58, .mov (.t 1), some (56, false)⟩,
 ⟨some 59, .cmp .neq (.t 57) (.t 58), some (56, false)⟩,
 ⟨some 60, .pick (.t 56) (.c (Go.Value.bool true)) (.t 59), none⟩] [0, 1, 2, 7, 9, 60]) (.cond (.t 60) (.seq (.reg [⟨some 6, .mov (.c (Go.Value.bool false)), none⟩] [6]) .ret) .skip))
def L_CblkPlays_i0 : IC := (.seq (.reg [⟨some 26, .mov (.t 8), none⟩,
 ⟨some 27, .mov (.t 10), none⟩,
 ⟨some 28, .cmp .neq (.t 26) (.t 27), none⟩,
 ⟨some 29, .mov (.t 28), none⟩,
 ⟨some 30, .mov (.t 8), some (29, false)⟩,
 ⟨some 31, .cmp .neq (.t 30) (.c (Go.Value.int Go.IntKind.i64 0)), some (29, false)⟩,
 ⟨some 32, .mov (.t 31), some (29, false)⟩,
 ⟨some 33, .mov (.t 7), some (32, true)⟩,
 ⟨some 34, .eqnil (.t 33) true 0, some (32, true)⟩,
 ⟨some 35, .pick (.t 32) (.t 34) (.c (Go.Value.bool false)), some (29, false)⟩,
 ⟨some 36, .pick (.t 29) (.c (Go.Value.bool true)) (.t 35), none⟩] [0, 1, 2, 7, 8, 9, 36]) (.cond (.t 36) (.seq (.reg [⟨some 6, .mov (.c (Go.Value.bool false)), none⟩] [6]) .ret) .skip))
def L_CblkPlays_f : IFn := ⟨108, [.t 6], (.seq (.reg [⟨some 6, .mov (.c (Go.Value.bool false)), none⟩] [0, 1, 2]) (.seq (.reg [⟨some 15, .mov (.t 0), none⟩,
 ⟨some 16, .mov (.t 1), none⟩,
 ⟨some 17, .call 31 [(.t 15), (.t 16)] (.tup [(.sc .ptr), (.sc (.int .i64))]), none⟩,
 ⟨some 14, .mov (.t 17), none⟩,
 ⟨some 18, .ext 0 (.t 14), none⟩,
 ⟨some 19, .ext 1 (.t 14), none⟩,
 ⟨some 7, .mov (.t 18), none⟩,
 ⟨some 8, .mov (.t 19), none⟩] [0, 1, 2, 7, 8]) (.seq (.reg [⟨some 21, .mov (.t 0), none⟩,
 ⟨some 22, .mov (.t 1), none⟩,
 ⟨some 23, .call 36 [(.t 21), (.t 22)] (.tup [(.sc .ptr), (.sc (.int .i64))]), none⟩,
 ⟨some 20, .mov (.t 23), none⟩,
 ⟨some 24, .ext 0 (.t 20), none⟩,
 ⟨some 25, .ext 1 (.t 20), none⟩,
 ⟨some 9, .mov (.t 24), none⟩,
 ⟨some 10, .mov (.t 25), none⟩] [0, 1, 2, 7, 8, 9, 10]) (.seq (.opq 0 [0, 1, 2, 7, 8, 9, 10] L_CblkPlays_i0) (.seq (.reg [⟨some 38, .mov (.t 7), none⟩,
 ⟨some 39, .call 37 [(.t 38)] (.tup [(.sc (.int .i64)), (.sc (.int .i64))]), none⟩,
 ⟨some 37, .mov (.t 39), none⟩,
 ⟨some 40, .ext 0 (.t 37), none⟩,
 ⟨some 41, .ext 1 (.t 37), none⟩,
 ⟨some 11, .mov (.t 40), none⟩,
 ⟨some 12, .mov (.t 41), none⟩] [0, 1, 2, 7, 8, 9, 11, 12]) (.seq (.seq (.reg [⟨some 42, .mov (.t 8), none⟩,
 ⟨some 43, .cmp .neq (.t 42) (.c (Go.Value.int Go.IntKind.i64 0)), none⟩] [0, 1, 2, 7, 9, 11, 12, 43]) (.cond (.t 43) (.seq (.reg [⟨some 44, .mov (.t 11), none⟩,
 ⟨some 45, .cmp .eql (.t 44) (.c (Go.Value.int Go.IntKind.i64 0)), none⟩,
 ⟨some 46, .mov (.t 45), none⟩,
 ⟨some 47, .mov (.t 12), some (46, true)⟩,
 ⟨some 48, .cmp .eql (.t 47) (.c (Go.Value.int Go.IntKind.i64 0)), some (46, true)⟩,
 ⟨some 49, .pick (.t 46) (.t 48) (.c (Go.Value.bool false)), none⟩,
 ⟨some 50, .mov (.t 49), none⟩,
 ⟨some 51, .call 14 [] (.one (.sc .bool)), some (50, true)⟩,
 ⟨some 52, .pick (.t 50) (.t 51) (.c (Go.Value.bool false)), none⟩,
 ⟨some 6, .mov (.t 52), none⟩] [6]) .ret) .skip)) (.seq (.opq 1 [0, 1, 2, 7, 9, 11, 12] L_CblkPlays_i1) (.seq (.seq (.opq 2 [0, 1, 2, 7, 9] L_CblkPlays_i2) (.cond (.t 71) (.seq (.reg [⟨some 72, .call 14 [] (.one (.sc .bool)), none⟩,
 ⟨some 6, .mov (.t 72), none⟩] [6]) .ret) .skip)) (.seq (.seq (.reg [⟨some 13, .mov (.c (Go.Value.int Go.IntKind.i64 0)), none⟩] [0, 1, 2, 7, 9, 13]) (.block 0 (.opq 3 [0, 1, 2, 7, 9, 13] (.loop L_CblkPlays_i3)))) (.seq (.reg [⟨some 100, .mov (.t 7), none⟩,
 ⟨some 101, .mov (.t 9), none⟩,
 ⟨some 102, .mov (.t 0), none⟩,
 ⟨some 103, .mov (.t 1), none⟩,
 ⟨some 104, .call 39 [(.t 100), (.t 101), (.t 102), (.t 103)] (.one (.sc .bool)), none⟩,
 ⟨some 105, .mov (.t 104), none⟩,
 ⟨some 106, .call 14 [] (.one (.sc .bool)), some (105, true)⟩,
 ⟨some 107, .pick (.t 105) (.t 106) (.c (Go.Value.bool false)), none⟩,
 ⟨some 6, .mov (.t 107), none⟩] [6]) .ret))))))))))⟩
theorem L_CblkPlays_e4 {R : Type} (cblk_New : Int → Int → Heap → (Option Addr → Int → Heap → Option R) → Option R) (R14_New : Int → Int → Heap → (Option Addr → Int → Heap → Option R) → Option R) (cblk_Block_Size : Option Addr → Heap → (Int → Int → Option R) → Option R) (L_exampleHoldsq : (Bool → Option R) → Option R) (L_do : Option Addr → Int → Int → Int → Int → Heap → (Int → Heap → Option R) → Option R) (L_want : Option Addr → Int → Int → Int → Int → Heap → (Int → Heap → Option R) → Option R) (L_alike : Option Addr → Option Addr → Int → Int → Heap → (Bool → Heap → Option R) → Option R) (L_CblkPlays_p0 : Int → Int → Option Addr → Nat → Nat → Option Addr → Int → Option Addr → Int → (Int → Int → Option Addr → Nat → Nat → Option Addr → Int → Option Addr → Option R) → (Bool → Option R) → Option R) (L_CblkPlays_p1 : Int → Int → Option Addr → Nat → Nat → Option Addr → Option Addr → Int → Int → (Int → Int → Option Addr → Nat → Nat → Option Addr → Option Addr → Option R) → (Bool → Option R) → Option R) (L_CblkPlays_p2 : Int → Int → Option Addr → Nat → Nat → Option Addr → Option Addr → (Int → Int → Option Addr → Nat → Nat → Option Addr → Option Addr → Bool → Option R) → Option R) (L_CblkPlays_l3 : (Int → Int → Option Addr → Option Addr → Heap → Option R) → (Bool → Heap → Option R) → Nat → Int → Int → Option Addr → Nat → Nat → Option Addr → Option Addr → Int → Heap → Option R) (L_CblkPlays_p4 : Int → Int → Option Addr → Nat → Nat → Option Addr → Option Addr → Int → Heap → (Int → Int → Option Addr → Nat → Nat → Option Addr → Option Addr → Int → Heap → Option R) → (Bool → Heap → Option R) → Option R) (k : Nat) (n911 : Int) (n912 : Int) (q913 : Option Addr) (l914 : Nat) (c915 : Nat) (p916 : Option Addr) (p917 : Option Addr) (n918 : Int) (H : Heap) (K : Xit → Env → Heap → Option R) : evJ (L_CblkPlays_Ct cblk_New R14_New cblk_Block_Size L_exampleHoldsq L_do L_want L_alike) (L_CblkPlays_Jt k L_CblkPlays_p0 L_CblkPlays_p1 L_CblkPlays_p2 L_CblkPlays_l3 L_CblkPlays_p4) L_CblkPlays_i4 (List.zip [0, 1, 2, 7, 9, 13] [.int .i64 n911, .int .i64 n912, .slice q913 l914 c915, .pointer p916, .pointer p917, .int .i64 n918]) H (fun x e' H' => K x (clean e' ((⟨[0, 1, 2, 7, 9, 13], [], [6]⟩ : Out).of x)) H') = L_CblkPlays_p4_b L_do L_want L_alike k n911 n912 q913 l914 c915 p916 p917 n918 H (fun n1597 n1598 q1599 l1600 c1601 p1602 p1603 n1604 H => K .normal [(0, .int .i64 n1597), (1, .int .i64 n1598), (2, .slice q1599 l1600 c1601), (7, .pointer p1602), (9, .pointer p1603), (13, .int .i64 n1604)] H) (fun t1605 H => K .ret [(6, .bool t1605)] H) := by kernel_rfl
theorem L_CblkPlays_j4 {R : Type} (k : Nat) : JS Try.prog 108 (L_CblkPlays_a4 R k k) [0, 1, 2, 7, 9, 13] ⟨[0, 1, 2, 7, 9, 13], [], [6]⟩ (sel [1, 1, 1, 1, 1, 1, 1, 1, 0, 1, 0, 0, 1, 0] (Try.f9.body.getD .skip)) :=
  piece_ok (nt := 108) (c := (sel [1, 1, 1, 1, 1, 1, 1, 1, 0, 1, 0, 0, 1, 0] (Try.f9.body.getD .skip))) (C := L_CblkPlays_C R k) (an := An) (t := (.node (.seq (.reg [0, 1, 2, 7, 9, 13, 99] [[], [], [], [1, 2], [1, 2, 3], [0, 1, 2, 3, 4], [], [], [], [7, 8], [7, 8, 9], [0, 1, 2, 3, 4, 5, 6, 7, 8, 9, 10], [0, 1, 2, 3, 4, 5, 6, 7, 8, 9, 10, 11], [0, 1, 2, 3, 4, 5, 6, 7, 8, 9, 10, 11, 12], [0, 1, 2, 3, 4, 5, 6, 7, 8, 9, 10, 11, 12, 13], [0, 1, 2, 3, 4, 5, 6, 7, 8, 9, 10, 11, 12, 13], [0, 1, 2, 3, 4, 5, 6, 7, 8, 9, 10, 11, 12, 13], [0, 1, 2, 3, 4, 5, 6, 7, 8, 9, 10, 11, 12, 13], [0, 1, 2, 3, 4, 5, 6, 7, 8, 9, 10, 11, 12, 13, 14, 15, 16, 17], [0, 1, 2, 3, 4, 5, 6, 7, 8, 9, 10, 11, 12, 13, 14, 15, 16, 17, 18], [0, 1, 2, 3, 4, 5, 6, 7, 8, 9, 10, 11, 12, 13, 14, 15, 16, 17, 18, 19]]) (.cond (.seq (.reg [6] []) .leaf) .leaf)))) (ic := L_CblkPlays_i4) (L_CblkPlays_S R k) (L_CblkPlays_J R k) (by kernel_rfl) (And.intro True.intro (And.intro (And.intro True.intro True.intro) True.intro)) (L_CblkPlays_a4 R k k)
    (fun vals H K r h => by
      unfold L_CblkPlays_a4 L_CblkPlays_aa4 at h
      split at h <;> first | (cases h; done) | exact Eq.trans (L_CblkPlays_e4 cblk_New R14_New cblk_Block_Size L_exampleHoldsq (L_do k) (L_want k) (L_alike k) (L_CblkPlays_p0 k) (L_CblkPlays_p1 k) (L_CblkPlays_p2 k) (L_CblkPlays_l3 k) (L_CblkPlays_p4 k) k _ _ _ _ _ _ _ _ H K) h)
theorem L_CblkPlays_e3 {R : Type} (cblk_New : Int → Int → Heap → (Option Addr → Int → Heap → Option R) → Option R) (R14_New : Int → Int → Heap → (Option Addr → Int → Heap → Option R) → Option R) (cblk_Block_Size : Option Addr → Heap → (Int → Int → Option R) → Option R) (L_exampleHoldsq : (Bool → Option R) → Option R) (L_do : Option Addr → Int → Int → Int → Int → Heap → (Int → Heap → Option R) → Option R) (L_want : Option Addr → Int → Int → Int → Int → Heap → (Int → Heap → Option R) → Option R) (L_alike : Option Addr → Option Addr → Int → Int → Heap → (Bool → Heap → Option R) → Option R) (L_CblkPlays_p0 : Int → Int → Option Addr → Nat → Nat → Option Addr → Int → Option Addr → Int → (Int → Int → Option Addr → Nat → Nat → Option Addr → Int → Option Addr → Option R) → (Bool → Option R) → Option R) (L_CblkPlays_p1 : Int → Int → Option Addr → Nat → Nat → Option Addr → Option Addr → Int → Int → (Int → Int → Option Addr → Nat → Nat → Option Addr → Option Addr → Option R) → (Bool → Option R) → Option R) (L_CblkPlays_p2 : Int → Int → Option Addr → Nat → Nat → Option Addr → Option Addr → (Int → Int → Option Addr → Nat → Nat → Option Addr → Option Addr → Bool → Option R) → Option R) (L_CblkPlays_l3 : (Int → Int → Option Addr → Option Addr → Heap → Option R) → (Bool → Heap → Option R) → Nat → Int → Int → Option Addr → Nat → Nat → Option Addr → Option Addr → Int → Heap → Option R) (L_CblkPlays_p4 : Int → Int → Option Addr → Nat → Nat → Option Addr → Option Addr → Int → Heap → (Int → Int → Option Addr → Nat → Nat → Option Addr → Option Addr → Int → Heap → Option R) → (Bool → Heap → Option R) → Option R) (k n : Nat) (n903 : Int) (n904 : Int) (q905 : Option Addr) (l906 : Nat) (c907 : Nat) (p908 : Option Addr) (p909 : Option Addr) (n910 : Int) (H : Heap) (K : Xit → Env → Heap → Option R) : evJ (L_CblkPlays_Ct cblk_New R14_New cblk_Block_Size L_exampleHoldsq L_do L_want L_alike) (L_CblkPlays_Jt k L_CblkPlays_p0 L_CblkPlays_p1 L_CblkPlays_p2 L_CblkPlays_l3 L_CblkPlays_p4) L_CblkPlays_i3 (List.zip [0, 1, 2, 7, 9, 13] [.int .i64 n903, .int .i64 n904, .slice q905 l906 c907, .pointer p908, .pointer p909, .int .i64 n910]) H (fun x e' H' => match x with | .normal => L_CblkPlays_aa3 L_CblkPlays_l3 n ((clean e' [0, 1, 2, 7, 9, 13]).map (·.2)) H' K | x => K x (clean e' ((⟨[], [(0, [0, 1, 7, 9])], [6]⟩ : Out).of x)) H') = L_CblkPlays_l3_b L_CblkPlays_p4 (L_CblkPlays_l3 (fun n1592 n1593 p1594 p1595 H => K (.exit 0) [(0, .int .i64 n1592), (1, .int .i64 n1593), (7, .pointer p1594), (9, .pointer p1595)] H) (fun t1596 H => K .ret [(6, .bool t1596)] H) n) (fun n1592 n1593 p1594 p1595 H => K (.exit 0) [(0, .int .i64 n1592), (1, .int .i64 n1593), (7, .pointer p1594), (9, .pointer p1595)] H) (fun t1596 H => K .ret [(6, .bool t1596)] H) k n903 n904 q905 l906 c907 p908 p909 n910 H := by kernel_rfl
theorem L_CblkPlays_j3 {R : Type} (k : Nat) : JS Try.prog 108 (L_CblkPlays_a3 R k k) [0, 1, 2, 7, 9, 13] ⟨[], [(0, [0, 1, 7, 9])], [6]⟩ (.loop (sel [1, 1, 1, 1, 1, 1, 1, 1, 0, 1, 0, 0] (Try.f9.body.getD .skip))) :=
  loop_ok (nt := 108) (c := (sel [1, 1, 1, 1, 1, 1, 1, 1, 0, 1, 0, 0] (Try.f9.body.getD .skip))) (C := L_CblkPlays_C R k) (an := An) (t := (.seq (.seq (.reg [0, 1, 2, 7, 9, 13, 76] []) (.cond .leaf .leaf)) (.seq (.opq 4 [0, 1, 2, 7, 9, 13] ⟨[0, 1, 2, 7, 9, 13], [], [6]⟩ (.node (.seq (.reg [0, 1, 2, 7, 9, 13, 99] [[], [], [], [1, 2], [1, 2, 3], [0, 1, 2, 3, 4], [], [], [], [7, 8], [7, 8, 9], [0, 1, 2, 3, 4, 5, 6, 7, 8, 9, 10], [0, 1, 2, 3, 4, 5, 6, 7, 8, 9, 10, 11], [0, 1, 2, 3, 4, 5, 6, 7, 8, 9, 10, 11, 12], [0, 1, 2, 3, 4, 5, 6, 7, 8, 9, 10, 11, 12, 13], [0, 1, 2, 3, 4, 5, 6, 7, 8, 9, 10, 11, 12, 13], [0, 1, 2, 3, 4, 5, 6, 7, 8, 9, 10, 11, 12, 13], [0, 1, 2, 3, 4, 5, 6, 7, 8, 9, 10, 11, 12, 13], [0, 1, 2, 3, 4, 5, 6, 7, 8, 9, 10, 11, 12, 13, 14, 15, 16, 17], [0, 1, 2, 3, 4, 5, 6, 7, 8, 9, 10, 11, 12, 13, 14, 15, 16, 17, 18], [0, 1, 2, 3, 4, 5, 6, 7, 8, 9, 10, 11, 12, 13, 14, 15, 16, 17, 18, 19]]) (.cond (.seq (.reg [6] []) .leaf) .leaf)))) (.reg [0, 1, 2, 7, 9, 13] [])))) (ic := L_CblkPlays_i3) (L_CblkPlays_S R k) (L_CblkPlays_J R k) (by kernel_rfl) (And.intro (And.intro True.intro (And.intro True.intro True.intro)) (And.intro (L_CblkPlays_j4 k) True.intro)) (L_CblkPlays_a3 R k) (fun vals H K => by unfold L_CblkPlays_a3 L_CblkPlays_aa3; split <;> rfl)
    (fun n vals H K r h => by
      unfold L_CblkPlays_a3 L_CblkPlays_aa3 at h
      split at h <;> first | (cases h; done) | exact Eq.trans (L_CblkPlays_e3 cblk_New R14_New cblk_Block_Size L_exampleHoldsq (L_do k) (L_want k) (L_alike k) (L_CblkPlays_p0 k) (L_CblkPlays_p1 k) (L_CblkPlays_p2 k) (L_CblkPlays_l3 k) (L_CblkPlays_p4 k) k n _ _ _ _ _ _ _ _ H K) h) k
theorem L_CblkPlays_e2 {R : Type} (cblk_New : Int → Int → Heap → (Option Addr → Int → Heap → Option R) → Option R) (R14_New : Int → Int → Heap → (Option Addr → Int → Heap → Option R) → Option R) (cblk_Block_Size : Option Addr → Heap → (Int → Int → Option R) → Option R) (L_exampleHoldsq : (Bool → Option R) → Option R) (L_do : Option Addr → Int → Int → Int → Int → Heap → (Int → Heap → Option R) → Option R) (L_want : Option Addr → Int → Int → Int → Int → Heap → (Int → Heap → Option R) → Option R) (L_alike : Option Addr → Option Addr → Int → Int → Heap → (Bool → Heap → Option R) → Option R) (L_CblkPlays_p0 : Int → Int → Option Addr → Nat → Nat → Option Addr → Int → Option Addr → Int → (Int → Int → Option Addr → Nat → Nat → Option Addr → Int → Option Addr → Option R) → (Bool → Option R) → Option R) (L_CblkPlays_p1 : Int → Int → Option Addr → Nat → Nat → Option Addr → Option Addr → Int → Int → (Int → Int → Option Addr → Nat → Nat → Option Addr → Option Addr → Option R) → (Bool → Option R) → Option R) (L_CblkPlays_p2 : Int → Int → Option Addr → Nat → Nat → Option Addr → Option Addr → (Int → Int → Option Addr → Nat → Nat → Option Addr → Option Addr → Bool → Option R) → Option R) (L_CblkPlays_l3 : (Int → Int → Option Addr → Option Addr → Heap → Option R) → (Bool → Heap → Option R) → Nat → Int → Int → Option Addr → Nat → Nat → Option Addr → Option Addr → Int → Heap → Option R) (L_CblkPlays_p4 : Int → Int → Option Addr → Nat → Nat → Option Addr → Option Addr → Int → Heap → (Int → Int → Option Addr → Nat → Nat → Option Addr → Option Addr → Int → Heap → Option R) → (Bool → Heap → Option R) → Option R) (k : Nat) (n879 : Int) (n880 : Int) (q881 : Option Addr) (l882 : Nat) (c883 : Nat) (p884 : Option Addr) (p885 : Option Addr) (H : Heap) (K : Xit → Env → Heap → Option R) : evJ (L_CblkPlays_Ct cblk_New R14_New cblk_Block_Size L_exampleHoldsq L_do L_want L_alike) (L_CblkPlays_Jt k L_CblkPlays_p0 L_CblkPlays_p1 L_CblkPlays_p2 L_CblkPlays_l3 L_CblkPlays_p4) L_CblkPlays_i2 (List.zip [0, 1, 2, 7, 9] [.int .i64 n879, .int .i64 n880, .slice q881 l882 c883, .pointer p884, .pointer p885]) H (fun x e' H' => K x (clean e' ((⟨[0, 1, 2, 7, 9, 71], [], []⟩ : Out).of x)) H') = L_CblkPlays_p2_b k n879 n880 q881 l882 c883 p884 p885 (fun n1584 n1585 q1586 l1587 c1588 p1589 p1590 t1591 => K .normal [(0, .int .i64 n1584), (1, .int .i64 n1585), (2, .slice q1586 l1587 c1588), (7, .pointer p1589), (9, .pointer p1590), (71, .bool t1591)] H) := by kernel_rfl
theorem L_CblkPlays_j2 {R : Type} (k : Nat) : JS Try.prog 108 (L_CblkPlays_a2 R k k) [0, 1, 2, 7, 9] ⟨[0, 1, 2, 7, 9, 71], [], []⟩ (sel [1, 1, 1, 1, 1, 1, 1, 0, 0] (Try.f9.body.getD .skip)) :=
  piece_ok (nt := 108) (c := (sel [1, 1, 1, 1, 1, 1, 1, 0, 0] (Try.f9.body.getD .skip))) (C := L_CblkPlays_C R k) (an := An) (t := (.reg [0, 1, 2, 7, 9, 71] [])) (ic := L_CblkPlays_i2) (L_CblkPlays_S R k) (L_CblkPlays_J R k) (by kernel_rfl) True.intro (L_CblkPlays_a2 R k k)
    (fun vals H K r h => by
      unfold L_CblkPlays_a2 L_CblkPlays_aa2 at h
      split at h <;> first | (cases h; done) | exact Eq.trans (L_CblkPlays_e2 cblk_New R14_New cblk_Block_Size L_exampleHoldsq (L_do k) (L_want k) (L_alike k) (L_CblkPlays_p0 k) (L_CblkPlays_p1 k) (L_CblkPlays_p2 k) (L_CblkPlays_l3 k) (L_CblkPlays_p4 k) k _ _ _ _ _ _ _ H K) h)
theorem L_CblkPlays_e1 {R : Type} (cblk_New : Int → Int → Heap → (Option Addr → Int → Heap → Option R) → Option R) (R14_New : Int → Int → Heap → (Option Addr → Int → Heap → Option R) → Option R) (cblk_Block_Size : Option Addr → Heap → (Int → Int → Option R) → Option R) (L_exampleHoldsq : (Bool → Option R) → Option R) (L_do : Option Addr → Int → Int → Int → Int → Heap → (Int → Heap → Option R) → Option R) (L_want : Option Addr → Int → Int → Int → Int → Heap → (Int → Heap → Option R) → Option R) (L_alike : Option Addr → Option Addr → Int → Int → Heap → (Bool → Heap → Option R) → Option R) (L_CblkPlays_p0 : Int → Int → Option Addr → Nat → Nat → Option Addr → Int → Option Addr → Int → (Int → Int → Option Addr → Nat → Nat → Option Addr → Int → Option Addr → Option R) → (Bool → Option R) → Option R) (L_CblkPlays_p1 : Int → Int → Option Addr → Nat → Nat → Option Addr → Option Addr → Int → Int → (Int → Int → Option Addr → Nat → Nat → Option Addr → Option Addr → Option R) → (Bool → Option R) → Option R) (L_CblkPlays_p2 : Int → Int → Option Addr → Nat → Nat → Option Addr → Option Addr → (Int → Int → Option Addr → Nat → Nat → Option Addr → Option Addr → Bool → Option R) → Option R) (L_CblkPlays_l3 : (Int → Int → Option Addr → Option Addr → Heap → Option R) → (Bool → Heap → Option R) → Nat → Int → Int → Option Addr → Nat → Nat → Option Addr → Option Addr → Int → Heap → Option R) (L_CblkPlays_p4 : Int → Int → Option Addr → Nat → Nat → Option Addr → Option Addr → Int → Heap → (Int → Int → Option Addr → Nat → Nat → Option Addr → Option Addr → Int → Heap → Option R) → (Bool → Heap → Option R) → Option R) (k : Nat) (n855 : Int) (n856 : Int) (q857 : Option Addr) (l858 : Nat) (c859 : Nat) (p860 : Option Addr) (p861 : Option Addr) (n862 : Int) (n863 : Int) (H : Heap) (K : Xit → Env → Heap → Option R) : evJ (L_CblkPlays_Ct cblk_New R14_New cblk_Block_Size L_exampleHoldsq L_do L_want L_alike) (L_CblkPlays_Jt k L_CblkPlays_p0 L_CblkPlays_p1 L_CblkPlays_p2 L_CblkPlays_l3 L_CblkPlays_p4) L_CblkPlays_i1 (List.zip [0, 1, 2, 7, 9, 11, 12] [.int .i64 n855, .int .i64 n856, .slice q857 l858 c859, .pointer p860, .pointer p861, .int .i64 n862, .int .i64 n863]) H (fun x e' H' => K x (clean e' ((⟨[0, 1, 2, 7, 9], [], [6]⟩ : Out).of x)) H') = L_CblkPlays_p1_b k n855 n856 q857 l858 c859 p860 p861 n862 n863 (fun n1576 n1577 q1578 l1579 c1580 p1581 p1582 => K .normal [(0, .int .i64 n1576), (1, .int .i64 n1577), (2, .slice q1578 l1579 c1580), (7, .pointer p1581), (9, .pointer p1582)] H) (fun t1583 => K .ret [(6, .bool t1583)] H) := by kernel_rfl
theorem L_CblkPlays_j1 {R : Type} (k : Nat) : JS Try.prog 108 (L_CblkPlays_a1 R k k) [0, 1, 2, 7, 9, 11, 12] ⟨[0, 1, 2, 7, 9], [], [6]⟩ (sel [1, 1, 1, 1, 1, 1, 0] (Try.f9.body.getD .skip)) :=
  piece_ok (nt := 108) (c := (sel [1, 1, 1, 1, 1, 1, 0] (Try.f9.body.getD .skip))) (C := L_CblkPlays_C R k) (an := An) (t := (.seq (.reg [0, 1, 2, 7, 9, 60] []) (.cond (.seq (.reg [6] []) .leaf) .leaf))) (ic := L_CblkPlays_i1) (L_CblkPlays_S R k) (L_CblkPlays_J R k) (by kernel_rfl) (And.intro True.intro (And.intro (And.intro True.intro True.intro) True.intro)) (L_CblkPlays_a1 R k k)
    (fun vals H K r h => by
      unfold L_CblkPlays_a1 L_CblkPlays_aa1 at h
      split at h <;> first | (cases h; done) | exact Eq.trans (L_CblkPlays_e1 cblk_New R14_New cblk_Block_Size L_exampleHoldsq (L_do k) (L_want k) (L_alike k) (L_CblkPlays_p0 k) (L_CblkPlays_p1 k) (L_CblkPlays_p2 k) (L_CblkPlays_l3 k) (L_CblkPlays_p4 k) k _ _ _ _ _ _ _ _ _ H K) h)
theorem L_CblkPlays_e0 {R : Type} (cblk_New : Int → Int → Heap → (Option Addr → Int → Heap → Option R) → Option R) (R14_New : Int → Int → Heap → (Option Addr → Int → Heap → Option R) → Option R) (cblk_Block_Size : Option Addr → Heap → (Int → Int → Option R) → Option R) (L_exampleHoldsq : (Bool → Option R) → Option R) (L_do : Option Addr → Int → Int → Int → Int → Heap → (Int → Heap → Option R) → Option R) (L_want : Option Addr → Int → Int → Int → Int → Heap → (Int → Heap → Option R) → Option R) (L_alike : Option Addr → Option Addr → Int → Int → Heap → (Bool → Heap → Option R) → Option R) (L_CblkPlays_p0 : Int → Int → Option Addr → Nat → Nat → Option Addr → Int → Option Addr → Int → (Int → Int → Option Addr → Nat → Nat → Option Addr → Int → Option Addr → Option R) → (Bool → Option R) → Option R) (L_CblkPlays_p1 : Int → Int → Option Addr → Nat → Nat → Option Addr → Option Addr → Int → Int → (Int → Int → Option Addr → Nat → Nat → Option Addr → Option Addr → Option R) → (Bool → Option R) → Option R) (L_CblkPlays_p2 : Int → Int → Option Addr → Nat → Nat → Option Addr → Option Addr → (Int → Int → Option Addr → Nat → Nat → Option Addr → Option Addr → Bool → Option R) → Option R) (L_CblkPlays_l3 : (Int → Int → Option Addr → Option Addr → Heap → Option R) → (Bool → Heap → Option R) → Nat → Int → Int → Option Addr → Nat → Nat → Option Addr → Option Addr → Int → Heap → Option R) (L_CblkPlays_p4 : Int → Int → Option Addr → Nat → Nat → Option Addr → Option Addr → Int → Heap → (Int → Int → Option Addr → Nat → Nat → Option Addr → Option Addr → Int → Heap → Option R) → (Bool → Heap → Option R) → Option R) (k : Nat) (n826 : Int) (n827 : Int) (q828 : Option Addr) (l829 : Nat) (c830 : Nat) (p831 : Option Addr) (n832 : Int) (p833 : Option Addr) (n834 : Int) (H : Heap) (K : Xit → Env → Heap → Option R) : evJ (L_CblkPlays_Ct cblk_New R14_New cblk_Block_Size L_exampleHoldsq L_do L_want L_alike) (L_CblkPlays_Jt k L_CblkPlays_p0 L_CblkPlays_p1 L_CblkPlays_p2 L_CblkPlays_l3 L_CblkPlays_p4) L_CblkPlays_i0 (List.zip [0, 1, 2, 7, 8, 9, 10] [.int .i64 n826, .int .i64 n827, .slice q828 l829 c830, .pointer p831, .int .i64 n832, .pointer p833, .int .i64 n834]) H (fun x e' H' => K x (clean e' ((⟨[0, 1, 2, 7, 8, 9], [], [6]⟩ : Out).of x)) H') = L_CblkPlays_p0_b k n826 n827 q828 l829 c830 p831 n832 p833 n834 (fun n1567 n1568 q1569 l1570 c1571 p1572 n1573 p1574 => K .normal [(0, .int .i64 n1567), (1, .int .i64 n1568), (2, .slice q1569 l1570 c1571), (7, .pointer p1572), (8, .int .i64 n1573), (9, .pointer p1574)] H) (fun t1575 => K .ret [(6, .bool t1575)] H) := by kernel_rfl
theorem L_CblkPlays_j0 {R : Type} (k : Nat) : JS Try.prog 108 (L_CblkPlays_a0 R k k) [0, 1, 2, 7, 8, 9, 10] ⟨[0, 1, 2, 7, 8, 9], [], [6]⟩ (sel [1, 1, 1, 0] (Try.f9.body.getD .skip)) :=
  piece_ok (nt := 108) (c := (sel [1, 1, 1, 0] (Try.f9.body.getD .skip))) (C := L_CblkPlays_C R k) (an := An) (t := (.seq (.reg [0, 1, 2, 7, 8, 9, 36] []) (.cond (.seq (.reg [6] []) .leaf) .leaf))) (ic := L_CblkPlays_i0) (L_CblkPlays_S R k) (L_CblkPlays_J R k) (by kernel_rfl) (And.intro True.intro (And.intro (And.intro True.intro True.intro) True.intro)) (L_CblkPlays_a0 R k k)
    (fun vals H K r h => by
      unfold L_CblkPlays_a0 L_CblkPlays_aa0 at h
      split at h <;> first | (cases h; done) | exact Eq.trans (L_CblkPlays_e0 cblk_New R14_New cblk_Block_Size L_exampleHoldsq (L_do k) (L_want k) (L_alike k) (L_CblkPlays_p0 k) (L_CblkPlays_p1 k) (L_CblkPlays_p2 k) (L_CblkPlays_l3 k) (L_CblkPlays_p4 k) k _ _ _ _ _ _ _ _ _ H K) h)
def L_CblkPlays_ca {R : Type} (f : Int → Int → Option Addr → Nat → Nat → Heap → (Bool → Heap → Option R) → Option R) (args : List Value) (H : Heap) (K : Value → Heap → Option R) : Option R :=
  match args with
  | [.int .i64 n815, .int .i64 n816, .slice q817 l818 c819] => f n815 n816 q817 l818 c819 H (fun t1606 H => K (.bool t1606) H)
  | _ => none
def L_CblkPlays_c (R : Type) (k : Nat) (args : List Value) (H : Heap) (K : Value → Heap → Option R) : Option R := L_CblkPlays_ca (L_CblkPlays k) args H K
theorem L_CblkPlays_e {R : Type} (cblk_New : Int → Int → Heap → (Option Addr → Int → Heap → Option R) → Option R) (R14_New : Int → Int → Heap → (Option Addr → Int → Heap → Option R) → Option R) (cblk_Block_Size : Option Addr → Heap → (Int → Int → Option R) → Option R) (L_exampleHoldsq : (Bool → Option R) → Option R) (L_do : Option Addr → Int → Int → Int → Int → Heap → (Int → Heap → Option R) → Option R) (L_want : Option Addr → Int → Int → Int → Int → Heap → (Int → Heap → Option R) → Option R) (L_alike : Option Addr → Option Addr → Int → Int → Heap → (Bool → Heap → Option R) → Option R) (L_CblkPlays_p0 : Int → Int → Option Addr → Nat → Nat → Option Addr → Int → Option Addr → Int → (Int → Int → Option Addr → Nat → Nat → Option Addr → Int → Option Addr → Option R) → (Bool → Option R) → Option R) (L_CblkPlays_p1 : Int → Int → Option Addr → Nat → Nat → Option Addr → Option Addr → Int → Int → (Int → Int → Option Addr → Nat → Nat → Option Addr → Option Addr → Option R) → (Bool → Option R) → Option R) (L_CblkPlays_p2 : Int → Int → Option Addr → Nat → Nat → Option Addr → Option Addr → (Int → Int → Option Addr → Nat → Nat → Option Addr → Option Addr → Bool → Option R) → Option R) (L_CblkPlays_l3 : (Int → Int → Option Addr → Option Addr → Heap → Option R) → (Bool → Heap → Option R) → Nat → Int → Int → Option Addr → Nat → Nat → Option Addr → Option Addr → Int → Heap → Option R) (L_CblkPlays_p4 : Int → Int → Option Addr → Nat → Nat → Option Addr → Option Addr → Int → Heap → (Int → Int → Option Addr → Nat → Nat → Option Addr → Option Addr → Int → Heap → Option R) → (Bool → Heap → Option R) → Option R) (k : Nat) (n815 : Int) (n816 : Int) (q817 : Option Addr) (l818 : Nat) (c819 : Nat) (H : Heap) (K : Value → Heap → Option R) : evF (L_CblkPlays_Ct cblk_New R14_New cblk_Block_Size L_exampleHoldsq L_do L_want L_alike) (L_CblkPlays_Jt k L_CblkPlays_p0 L_CblkPlays_p1 L_CblkPlays_p2 L_CblkPlays_l3 L_CblkPlays_p4) L_CblkPlays_f [.int .i64 n815, .int .i64 n816, .slice q817 l818 c819] H K = L_CblkPlays_b cblk_New R14_New L_CblkPlays_p0 cblk_Block_Size L_exampleHoldsq L_CblkPlays_p1 L_CblkPlays_p2 L_CblkPlays_l3 L_alike k n815 n816 q817 l818 c819 H (fun t1606 H => K (.bool t1606) H) := by kernel_rfl
theorem L_CblkPlays_cs (R : Type) (k : Nat) : ∀ args H K r, L_CblkPlays_c R k args H K = some r → ∃ v H', Tri Try.prog 9 args H v H' ∧ K v H' = some r := by
  intro args H K r h
  unfold L_CblkPlays_c L_CblkPlays_ca at h
  split at h
  · exact evF_ok (C := L_CblkPlays_C R k) (an := An) (t := L_CblkPlays_at) (fn := Try.f9) (c := (Try.f9.body.getD .skip)) (ifn := L_CblkPlays_f) (L_CblkPlays_S R k) (L_CblkPlays_J R k) Try.func9 (by kernel_rfl) (by kernel_rfl) (And.intro True.intro (And.intro True.intro (And.intro True.intro (And.intro (L_CblkPlays_j0 k) (And.intro True.intro (And.intro (And.intro True.intro (And.intro (And.intro True.intro True.intro) True.intro)) (And.intro (L_CblkPlays_j1 k) (And.intro (And.intro (L_CblkPlays_j2 k) (And.intro (And.intro True.intro True.intro) True.intro)) (And.intro (And.intro True.intro (L_CblkPlays_j3 k)) (And.intro True.intro True.intro)))))))))) rfl (Eq.trans (L_CblkPlays_e cblk_New R14_New cblk_Block_Size L_exampleHoldsq (L_do k) (L_want k) (L_alike k) (L_CblkPlays_p0 k) (L_CblkPlays_p1 k) (L_CblkPlays_p2 k) (L_CblkPlays_l3 k) (L_CblkPlays_p4 k) k _ _ _ _ _ H K) h)
  · cases h
end Go.Proofs.Ytblpaolcgkjcgaa.Sh
