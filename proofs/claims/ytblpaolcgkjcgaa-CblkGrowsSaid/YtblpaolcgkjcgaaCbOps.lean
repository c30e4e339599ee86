/- Cblk: the calls that came in, and blocks after them. -/
import Derived.Test.YtblpaolcgkjcgaaCbG
import Derived.Test.YtblpaolcgkjcgaaFwO
import Derived.Test.YtblpaolcgkjcgaaSh5
set_option linter.unusedVariables false
set_option linter.unusedSimpArgs false
namespace Go.Proofs.Ytblpaolcgkjcgaa.Sh
open Go.Proofs.Ytblpaolcgkjcgaa.FW
def dOp : D := .pair (.int .i64) (.pair (.int .i64) (.pair (.int .i64) (.pair (.int .i64) .nil)))
theorem ops_of {H : Heap} : ∀ (es : List (List Value)), (∀ e ∈ es, Shp dOp H e) → ∃ ops : List Op4, ops.length = es.length ∧ es.flatten = ops.flatMap opc ∧ ∀ o ∈ ops, (Lit.int .i64 o.1).wf = true ∧ (Lit.int .i64 o.2.1).wf = true ∧ (Lit.int .i64 o.2.2.1).wf = true ∧ (Lit.int .i64 o.2.2.2).wf = true := by
  intro es
  induction es with
  | nil => intro _; exact ⟨[], rfl, rfl, fun o h => by cases h⟩
  | cons e es ih =>
    intro h
    obtain ⟨ops, h1, h2, h3⟩ := ih fun x hx => h x (List.mem_cons_of_mem _ hx)
    obtain ⟨x, y, rfl, ⟨a, rfl, ha⟩, x2, y2, rfl, ⟨b, rfl, hb⟩, x3, y3, rfl, ⟨c, rfl, hc⟩, x4, y4, rfl, ⟨d, rfl, hd⟩, hn⟩ := h e (by simp)
    have hn' : y4 = [] := hn
    subst hn'
    refine ⟨(a, b, c, d) :: ops, by simp [h1], by rw [List.flatten_cons, List.flatMap_cons, h2]; rfl, fun o ho => ?_⟩
    rcases List.mem_cons.1 ho with rfl | ho
    · exact ⟨ha, hb, hc, hd⟩
    · exact h3 o ho
theorem shows_below {H : Heap} {q : Option Addr} {cs : List Value} (h : Shows H q cs) : cs = [] ∨ Below H.length q := by
  rcases h with h | ⟨b, o, full, rfl, h1, _⟩
  · exact .inl h
  · exact .inr fun a ha => by cases ha; exact h1.lt
def sml (w h : Int) (l : Nat) : Bool := decide (1 ≤ w) && decide (w ≤ 12) && decide (1 ≤ h) && decide (h ≤ 12) && decide (l ≤ 100)
theorem small_eq {R : Type} (w h : Int) (q : Option Addr) (l c : Nat) (K : Bool → Option R) : L_small w h q l c K = K (sml w h l) := by
  unfold L_small L_small_b sml
  have : decide (((l : Nat) : Int) ≤ 100) = decide (l ≤ 100) := decide_eq_decide.2 (by omega)
  rw [this]
  cases decide (1 ≤ w) <;> cases decide (w ≤ 12) <;> cases decide (1 ≤ h) <;> cases decide (h ≤ 12) <;> rfl
theorem sml_nat {w h : Int} {l : Nat} (hs : sml w h l = true) : ∃ a b : Nat, w = a ∧ h = b ∧ 1 ≤ a ∧ a ≤ 12 ∧ 1 ≤ b ∧ b ≤ 12 ∧ l ≤ 100 := by
  unfold sml at hs
  simp only [Bool.and_eq_true, decide_eq_true_eq] at hs
  exact ⟨w.toNat, h.toNat, by omega, by omega, by omega, by omega, by omega, by omega, by omega⟩
theorem played_eq (k : Nat) (hk : 200 < k) {H : Heap} {q : Option Addr} {ops : List Op4} (c : Nat) (hS : Shows H q (ops.flatMap opc)) (hl : ops.length ≤ 100) {a b : Nat} (h1 : 1 ≤ a) (h2 : a ≤ 64) (h3 : 1 ≤ b) (h4 : b ≤ 64) :
    ∃ a1 a2 b1 b2 H', (∀ (R : Type) (K : Option Addr → Option Addr → Heap → Option R), L_played k (a : Int) (b : Int) q ops.length c H K = K (some ⟨a1, 0, none⟩) (some ⟨b1, 0, none⟩) H') ∧ Two H.length H' a1 a2 b1 b2 a b (plays a b (fun _ => cel0) ops) ∧ Old H.length H H' := by
  obtain ⟨H1, e1, A, o1, n1⟩ := New_eq H h1 h2 h3 h4
  obtain ⟨H2, e2, B, o2, n2⟩ := NewR_eq H1 h1 h2 h3 h4
  have o12 : Old H.length H H2 := o1.trans (o2.mono o1.1)
  have T : Two H.length H2 (H.length + 1) H.length (H1.length + 1) H1.length a b (fun _ => cel0) := ⟨A.keep o2, B, by omega, by omega, by omega, Nat.le_refl _, by omega⟩
  have hb := shows_below hS
  obtain ⟨H', i1, i2, i3⟩ := played_loop k c hb (by omega) ops.length k 0 (by omega) (by omega) H2 _ T (hS.old o12 hb) o12.1
  refine ⟨_, _, _, _, H', fun R K => ?_, i2, o12.trans i3⟩
  unfold L_played L_played_b
  rw [e1, e2]
  exact i1 R _
end Go.Proofs.Ytblpaolcgkjcgaa.Sh
