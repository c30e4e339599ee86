/- How the numbers of neighbors change: what the law's 'grown' finds. -/
import Derived.Test.YtblpaolcgkjcgaaCbGrows
set_option linter.unusedVariables false
set_option linter.unusedSimpArgs false
namespace Go.Proofs.Ytblpaolcgkjcgaa.Sh
open Go.Proofs.Ytblpaolcgkjcgaa.FW
def ind (x y u v : Int) : Int := if u = x ∧ v = y then 1 else 0
theorem ix_inj {w h : Nat} {x y u v : Int} (h1 : inn w h x y = true) (h2 : inn w h u v = true) (e : ix w u v = ix w x y) : u = x ∧ v = y := by
  unfold inn at h1 h2
  simp only [Bool.and_eq_true, decide_eq_true_eq] at h1 h2
  unfold ix at e
  obtain ⟨a, rfl⟩ : ∃ a : Nat, x = a := ⟨x.toNat, by omega⟩
  obtain ⟨b, rfl⟩ : ∃ b : Nat, y = b := ⟨y.toNat, by omega⟩
  obtain ⟨c, rfl⟩ : ∃ c : Nat, u = c := ⟨u.toNat, by omega⟩
  obtain ⟨d, rfl⟩ : ∃ d : Nat, v = d := ⟨v.toNat, by omega⟩
  simp only [Int.toNat_natCast] at e
  have p1 := div_mod_at (y := b) (show a < w by omega)
  have p2 := div_mod_at (y := d) (show c < w by omega)
  rw [e] at p2
  omega
def markd (w : Nat) (g : Nat → Cel) (x y : Int) : Nat → Cel := upd g (ix w x y) { g (ix w x y) with s := true }
theorem cnt_mark {w h : Nat} {g : Nat → Cel} {x y : Int} (hi : inn w h x y = true) (hs : (gc w h g x y).s = false) (u v : Int) : cnt w h (markd w g x y) u v = cnt w h g u v + ind x y u v := by
  unfold cnt gc ind markd upd
  unfold gc at hs
  rw [hi, cond_true] at hs
  cases e : inn w h u v with
  | false =>
    have : ¬ (u = x ∧ v = y) := fun hh => by rw [hh.1, hh.2, hi] at e; cases e
    simp [this, cel0]
  | true =>
    simp only [cond_true]
    by_cases c : u = x ∧ v = y
    · obtain ⟨rfl, rfl⟩ := c
      simp [hs]
    · have : ix w u v ≠ ix w x y := fun hh => c (ix_inj hi e hh)
      simp [c, this]
/-- What the law expects. -/
def seen (c : Bool) (x y u v : Int) : Bool := decide (imx (u - x) (x - u) ≤ 1) && (decide (imx (v - y) (y - v) ≤ 1) && (decide (imx (u - x) (x - u) + imx (v - y) (y - v) > 0) && !(c && (y == v + 1) && (Int.tmod v 4 == 3))))
theorem nb_mark {w h : Nat} {g : Nat → Cel} {x y : Int} (hi : inn w h x y = true) (hs : (gc w h g x y).s = false) {u v : Int} (hu : inn w h u v = true) (c : Bool) :
    (nb w h (markd w g x y) u v c).1 = (nb w h g u v c).1 + (bif seen c x y u v && (imx (v - y) (y - v) == 0) then 1 else 0) ∧
    (nb w h (markd w g x y) u v c).2.1 = (nb w h g u v c).2.1 + (bif seen c x y u v && (imx (u - x) (x - u) == 0) then 1 else 0) ∧
    (nb w h (markd w g x y) u v c).2.2 = (nb w h g u v c).2.2 + (bif seen c x y u v && (imx (u - x) (x - u) + imx (v - y) (y - v) == 2) then 1 else 0) := by
  unfold nb
  rw [hu]
  simp only [cond_true, cnt_mark hi hs]
  have hb : ∀ (b : Bool), (bif b then (1 : Int) else 0) = if b = true then 1 else 0 := fun b => by cases b <;> rfl
  have hc : ∀ (b : Bool) (p q : Int), (bif b then p else q) = if b = true then p else q := fun b p q => by cases b <;> rfl
  simp only [hc]
  unfold seen imx ind
  simp only [Bool.and_eq_true, decide_eq_true_eq, Bool.not_eq_true', Bool.and_eq_false_iff, beq_iff_eq, beq_eq_false_iff_ne, bne_iff_ne, Bool.or_eq_true, ne_eq]
  cases c with
  | false =>
    simp only [Bool.false_eq_true, false_and, not_false_eq_true, true_or, and_true, if_true]
    refine ⟨?_, ?_, ?_⟩ <;> (repeat' split) <;> omega
  | true =>
    simp only [true_and, Bool.true_eq_false, false_or]
    by_cases c3 : Int.tmod v 4 = 3
    · simp only [c3, not_true_eq_false, if_false, or_false]
      refine ⟨?_, ?_, ?_⟩ <;> (repeat' split) <;> omega
    · simp only [c3, not_false_eq_true, if_true, or_true, and_true]
      refine ⟨?_, ?_, ?_⟩ <;> (repeat' split) <;> omega
end Go.Proofs.Ytblpaolcgkjcgaa.Sh
