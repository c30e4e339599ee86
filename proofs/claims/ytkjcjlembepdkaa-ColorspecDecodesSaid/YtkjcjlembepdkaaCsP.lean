/- Colorspec, plain law: the channels are all named, once each. -/
import Derived.Test.YtkjcjlembepdkaaCsD
set_option linter.unusedVariables false
set_option linter.unusedSimpArgs false
namespace Go.Proofs.Ytkjcjlembepdkaa.Sh
open Go.Proofs.Ytkjcjlembepdkaa.FW
def covB (k : Nat) (rs : List Int) : Bool := (List.range k).all fun i => decide (((i + 1 : Nat) : Int) ∈ rs)
theorem covB_iff (k : Nat) (rs : List Int) : covB k rs = true ↔ ∀ x : Nat, 1 ≤ x → x ≤ k → (x : Int) ∈ rs := by
  unfold covB
  rw [List.all_eq_true]
  constructor
  · intro h x h1 h2
    have := h (x - 1) (List.mem_range.2 (by omega))
    rw [decide_eq_true_eq, show x - 1 + 1 = x from by omega] at this
    exact this
  · intro h i hi
    rw [decide_eq_true_eq]
    exact h (i + 1) (by omega) (by have := List.mem_range.1 hi; omega)
def nz (a : Int) : Nat := if a = 0 then 0 else 1
theorem nzc_cons (a : Int) (l : List Int) : nzc (a :: l) = nz a + nzc l := by
  unfold nzc nz
  rw [List.filter_cons]
  by_cases h : a = 0
  · subst h; simp
  · simp [h]; omega
theorem nzc_nil : nzc [] = 0 := rfl
theorem nz_or (a : Int) : (a = 0 ∧ nz a = 0) ∨ (a ≠ 0 ∧ nz a = 1) := by
  unfold nz; split
  · exact .inl ⟨‹_›, rfl⟩
  · exact .inr ⟨‹_›, rfl⟩
/-- Whether the two ways to ask agree. -/
def agr (rs : List Int) : Bool := !(decide (rs.length ≤ nzc rs + 1) && decide (1 ≤ nzc rs)) || (covB (nzc rs) rs == (inB 0 (nzc rs) rs && decide rs.Nodup))
def fl (l : List (Fin 5)) : List Int := l.map fun x => ((x.val : Nat) : Int)
set_option maxRecDepth 100000 in
theorem agr1 : ∀ a : Fin 5, agr (fl [a]) = true := by decide
set_option maxRecDepth 100000 in
theorem agr2 : ∀ a b : Fin 5, agr (fl [a, b]) = true := by decide
set_option maxRecDepth 100000 in
theorem agr3 : ∀ a b c : Fin 5, agr (fl [a, b, c]) = true := by decide
set_option maxRecDepth 100000 in
theorem agr4 : ∀ a b c d : Fin 5, agr (fl [a, b, c, d]) = true := by decide +kernel
theorem fin_of {a : Int} (h0 : 0 ≤ a) (h4 : a ≤ 4) : ∃ x : Fin 5, ((x.val : Nat) : Int) = a := ⟨⟨a.toNat, by omega⟩, by simp; omega⟩
theorem inB_bd {k : Nat} {rs : List Int} (h : inB 0 (k : Int) rs = true) {x : Int} (hx : x ∈ rs) : 0 ≤ x ∧ x ≤ k := by
  have := List.all_eq_true.1 h x hx
  exact of_decide_eq_true this
theorem nzc_le (rs : List Int) : nzc rs ≤ rs.length := List.length_filter_le _ _
theorem cov_bd1 {a : Int} (hk : 1 ≤ nzc [a]) (h : covB (nzc [a]) [a] = true) : 0 ≤ a ∧ a ≤ 4 := by
  rw [covB_iff] at h
  have h1 := h 1 (by omega) hk
  simp only [List.mem_cons, List.mem_nil_iff, or_false] at h1
  omega
theorem cov_bd2 {a b : Int} (hz : 2 ≤ nzc [a, b] + 1) (h : covB (nzc [a, b]) [a, b] = true) : (0 ≤ a ∧ a ≤ 4) ∧ 0 ≤ b ∧ b ≤ 4 := by
  rw [covB_iff] at h
  have h1 := h 1 (by omega)
  have h2 := h 2 (by omega)
  simp only [List.mem_cons, List.mem_nil_iff, or_false] at h1 h2
  simp only [nzc_cons, nzc_nil] at hz h1 h2
  have ha := nz_or a
  have hb := nz_or b
  generalize nz a = x at *
  generalize nz b = y at *
  omega
theorem cov_bd3 {a b c : Int} (hz : 3 ≤ nzc [a, b, c] + 1) (h : covB (nzc [a, b, c]) [a, b, c] = true) : (0 ≤ a ∧ a ≤ 4) ∧ (0 ≤ b ∧ b ≤ 4) ∧ 0 ≤ c ∧ c ≤ 4 := by
  rw [covB_iff] at h
  have h1 := h 1 (by omega)
  have h2 := h 2 (by omega)
  have h3 := h 3 (by omega)
  simp only [List.mem_cons, List.mem_nil_iff, or_false] at h1 h2 h3
  simp only [nzc_cons, nzc_nil] at hz h1 h2 h3
  have ha := nz_or a
  have hb := nz_or b
  have hc := nz_or c
  generalize nz a = x at *
  generalize nz b = y at *
  generalize nz c = z at *
  rcases ha with ⟨ha, rfl⟩ | ⟨ha, rfl⟩ <;> rcases hb with ⟨hb, rfl⟩ | ⟨hb, rfl⟩ <;> rcases hc with ⟨hc, rfl⟩ | ⟨hc, rfl⟩ <;> omega
theorem cov_bd4 {a b c d : Int} (hz : 4 ≤ nzc [a, b, c, d] + 1) (h : covB (nzc [a, b, c, d]) [a, b, c, d] = true) : (0 ≤ a ∧ a ≤ 4) ∧ (0 ≤ b ∧ b ≤ 4) ∧ (0 ≤ c ∧ c ≤ 4) ∧ 0 ≤ d ∧ d ≤ 4 := by
  rw [covB_iff] at h
  have h1 := h 1 (by omega) (by omega)
  have h2 := h 2 (by omega) (by omega)
  have h3 := h 3 (by omega) (by omega)
  have h4 := h 4 (by omega)
  simp only [List.mem_cons, List.mem_nil_iff, or_false] at h1 h2 h3 h4
  simp only [nzc_cons, nzc_nil] at hz h4
  have ha := nz_or a
  have hb := nz_or b
  have hc := nz_or c
  have hd := nz_or d
  generalize nz a = x at *
  generalize nz b = y at *
  generalize nz c = z at *
  generalize nz d = w at *
  rcases ha with ⟨ha, rfl⟩ | ⟨ha, rfl⟩ <;> rcases hb with ⟨hb, rfl⟩ | ⟨hb, rfl⟩ <;> rcases hc with ⟨hc, rfl⟩ | ⟨hc, rfl⟩ <;> rcases hd with ⟨hd, rfl⟩ | ⟨hd, rfl⟩ <;> first
    | omega
    | (have h4 := h4 (by omega)
       rcases h1 with h1 | h1 | h1 | h1 <;> rcases h2 with h2 | h2 | h2 | h2 <;> first | omega | (rcases h3 with h3 | h3 | h3 | h3 <;> omega))
    | (rcases h1 with h1 | h1 | h1 | h1 <;> rcases h2 with h2 | h2 | h2 | h2 <;> first | omega | (rcases h3 with h3 | h3 | h3 | h3 <;> omega))
theorem cov_bd {rs : List Int} (h1 : 1 ≤ rs.length) (h4 : rs.length ≤ 4) (hz : rs.length ≤ nzc rs + 1) (hk : 1 ≤ nzc rs) (h : covB (nzc rs) rs = true) : ∀ x ∈ rs, 0 ≤ x ∧ x ≤ 4 := by
  match rs, h1, h4 with
  | [a], _, _ => intro x hx; simp at hx; subst hx; exact cov_bd1 hk h
  | [a, b], _, _ => intro x hx; have := cov_bd2 hz h; simp at hx; rcases hx with rfl | rfl <;> omega
  | [a, b, c], _, _ => intro x hx; have := cov_bd3 hz h; simp at hx; rcases hx with rfl | rfl | rfl <;> omega
  | [a, b, c, d], _, _ => intro x hx; have := cov_bd4 hz h; simp at hx; rcases hx with rfl | rfl | rfl | rfl <;> omega
  | _ :: _ :: _ :: _ :: _ :: l, _, h4 => simp at h4
theorem agr_of {rs : List Int} (h1 : 1 ≤ rs.length) (h4 : rs.length ≤ 4) (hb : ∀ x ∈ rs, 0 ≤ x ∧ x ≤ 4) : agr rs = true := by
  match rs, h1, h4, hb with
  | [a], _, _, hb =>
    obtain ⟨x, rfl⟩ := fin_of (hb a (by simp)).1 (hb a (by simp)).2
    exact agr1 x
  | [a, b], _, _, hb =>
    obtain ⟨x, rfl⟩ := fin_of (hb a (by simp)).1 (hb a (by simp)).2
    obtain ⟨y, rfl⟩ := fin_of (hb b (by simp)).1 (hb b (by simp)).2
    exact agr2 x y
  | [a, b, c], _, _, hb =>
    obtain ⟨x, rfl⟩ := fin_of (hb a (by simp)).1 (hb a (by simp)).2
    obtain ⟨y, rfl⟩ := fin_of (hb b (by simp)).1 (hb b (by simp)).2
    obtain ⟨z, rfl⟩ := fin_of (hb c (by simp)).1 (hb c (by simp)).2
    exact agr3 x y z
  | [a, b, c, d], _, _, hb =>
    obtain ⟨x, rfl⟩ := fin_of (hb a (by simp)).1 (hb a (by simp)).2
    obtain ⟨y, rfl⟩ := fin_of (hb b (by simp)).1 (hb b (by simp)).2
    obtain ⟨z, rfl⟩ := fin_of (hb c (by simp)).1 (hb c (by simp)).2
    obtain ⟨w, rfl⟩ := fin_of (hb d (by simp)).1 (hb d (by simp)).2
    exact agr4 x y z w
  | _ :: _ :: _ :: _ :: _ :: l, _, h4, _ => simp at h4
/-- All channels are named exactly if the roles lie within them and differ. -/
theorem cover_eq {rs : List Int} (h1 : 1 ≤ rs.length) (h4 : rs.length ≤ 4) (hz : rs.length ≤ nzc rs + 1) (hk : 1 ≤ nzc rs) : covB (nzc rs) rs = (inB 0 (nzc rs) rs && decide rs.Nodup) := by
  have key : (∀ x ∈ rs, 0 ≤ x ∧ x ≤ 4) → covB (nzc rs) rs = (inB 0 (nzc rs) rs && decide rs.Nodup) := by
    intro hb
    have := agr_of h1 h4 hb
    unfold agr at this
    rw [decide_eq_true hz, decide_eq_true hk] at this
    simpa using this
  cases hc : covB (nzc rs) rs with
  | true => rw [← key (cov_bd h1 h4 hz hk hc), hc]
  | false =>
    cases hi : inB 0 (nzc rs) rs with
    | false => rfl
    | true =>
      have hl := nzc_le rs
      rw [← hc, ← hi]
      exact key fun x hx => by have := inB_bd hi hx; omega
end Go.Proofs.Ytkjcjlembepdkaa.Sh
