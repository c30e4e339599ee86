/- Lean functions that stand for Go's,over an explicit heap,and the proofs that they do (written by this claim's program sh2.py). -/
import Derived.Test.YtkjcjlembepdkaaShA
import Derived.Test.YtkjcjlembepdkaaSh3
set_option maxRecDepth 100000
set_option linter.unusedVariables false
set_option linter.unusedSimpArgs false
namespace Go.Proofs.Ytkjcjlembepdkaa.Sh
open Go.Proofs.Ytkjcjlembepdkaa.FW
/-! ### R46_Check: function 12 -/
abbrev R46_Check_u (R : Type) : Type := Heap → (Int → Heap → Option R) → Option R
abbrev R46_Check_t (R : Type) : Type := Int → Oa → Nat → Nat → Oa → Nat → Nat → Int → Int → Int → Int → Int → Int → Oa → Nat → Nat → R46_Check_u R
section
variable {R : Type} (f0 : R46_Valid_t R) (f1 : R46_depth_t R)
def R46_Check_b (k : Nat) : R46_Check_t R := fun n1 q2 l3 c4 q5 l6 c7 n8 n9 n10 n11 n12 n13 q14 l15 c16 H K =>
hal H [.int .i64 n1,.slice q2 l3 c4,.slice q5 l6 c7] fun p17 H18 =>
hal H18 [.int .i64 n8,.int .i64 n9,.int .i64 n10,.int .i64 n11,.int .i64 n12,.int .i64 n13,.slice q14 l15 c16] fun p19 H20 =>
ldI .i64 H20 (pad p17 0) fun n21 =>
ldL H20 (pad p17 1) fun q22 l23 c24 =>
ldL H20 (pad p17 2) fun q25 l26 c27 =>
f0 n21 q22 l23 c24 q25 l26 c27 H20 fun n28 H29 =>
bif (n28 != 0) then (K n28 H29)
 else (hfad 2 p17 fun p30 =>
ldL H29 p30 fun q31 l32 c33 =>
bif (((l32 : Nat) : Int) == 0) then (hfad 6 p19 fun p34 =>
ldL H29 p34 fun q35 l36 c37 =>
hfad 1 p17 fun p38 =>
ldL H29 p38 fun q39 l40 c41 =>
bif (((l36 : Nat) : Int) != ((l40 : Nat) : Int)) then (K 21 H29)
 else (K 0 H29))
 else (hfad 6 p19 fun p42 =>
ldL H29 p42 fun q43 l44 c45 =>
bif (((l44 : Nat) : Int) != 1) then (K 21 H29)
 else (hfad 6 p19 fun p46 =>
ldL H29 p46 fun q47 l48 c49 =>
hidx q47 l48 0 4 fun p50 =>
hfad 1 p50 fun p51 =>
ldB H29 p51 fun t52 =>
bif t52 then (K 21 H29)
 else (hfad 6 p19 fun p53 =>
ldL H29 p53 fun q54 l55 c56 =>
hidx q54 l55 0 4 fun p57 =>
hfad 0 p57 fun p58 =>
ldI .i64 H29 p58 fun n59 =>
hfad 2 p17 fun p60 =>
ldL H29 p60 fun q61 l62 c63 =>
f1 ((l62 : Nat) : Int) fun n64 =>
bif (n59 != n64) then (K 21 H29)
 else (K 0 H29)))))
def R46_Check (k : Nat) : R46_Check_t R := R46_Check_b (R46_Valid k) (R46_depth k) k
def x12C : Tab R := tcons 28 (x28a f0) <| tcons 29 (x29a f1) <| fun _ _ _ _ => none
def x12J (k : Nat) : JTab R := fun _ _ _ _ => none
def x12t : AT := (.seq (.reg [2,3] []) (.seq (.reg [2,3,5] []) (.seq (.seq (.reg [2,3,5,9] []) (.cond (.seq (.reg [4] []) .leaf) .leaf)) (.seq (.seq (.reg [2,3,14] []) (.cond (.seq (.seq (.reg [21] []) (.cond (.seq (.reg [4] []) .leaf) .leaf)) (.seq (.reg [4] []) .leaf)) .leaf)) (.seq (.seq (.reg [44] (ms [0,1,3,7,15,31,63,127,255,511,1023,2047,4095,8191,16383,32767,65535,4095,135167,397311,921599,2097151,4194303])) (.cond (.seq (.reg [4] []) .leaf) .leaf)) (.seq (.reg [4] []) .leaf))))))
def x12c (g : R46_Check_u R) (H : Heap) (K : Value → Heap → Option R) : Option R := g H (rH [.n] K)
def x12a (f : R46_Check_t R) : List Value → Heap → (Value → Heap → Option R) → Option R := jf 2 [(.a 3),.n,.l,.l,(.a 7),.n,.n,.n,.n,.n,.n,.l] x12c f
variable {f0 f1}
theorem x12e (k : Nat) (H : Heap) (K : Value → Heap → Option R) : fE Try.prog An (x12C f0 f1) (x12J k) x12t Try.f12 [(.a 3),.n,.l,.l,(.a 7),.n,.n,.n,.n,.n,.n,.l] H K = mapT (fun g => x12c g H K) [(.a 3),.n,.l,.l,(.a 7),.n,.n,.n,.n,.n,.n,.l] (R46_Check_b f0 f1 k) := by kernel_rfl
theorem x12S (R : Type) (k : Nat) : CSound Try.prog (x12C (R := R) (R46_Valid k) (R46_depth k)) := csound_cons (x28cs R k) <| csound_cons (x29cs R k) <| csound_nil
theorem x12cs (R : Type) (k : Nat) : ∀ args H K r,x12a (R46_Check k) args H K = some (r : R) → ∃ v H',Tri Try.prog 12 args H v H' ∧ K v H' = some r := fj (x12S R k) (x12J k) Try.func12 (by kernel_rfl) (A := True) trivial (by kernel_rfl) (fun _ _ => .trans (x12e _ _ _) (by kernel_rfl))
end
end Go.Proofs.Ytkjcjlembepdkaa.Sh
