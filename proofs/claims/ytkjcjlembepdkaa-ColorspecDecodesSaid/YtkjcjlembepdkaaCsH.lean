/- Colorspec: color specifications and headers that came in. -/
import Derived.Test.YtkjcjlembepdkaaCsG
set_option linter.unusedVariables false
set_option linter.unusedSimpArgs false
namespace Go.Proofs.Ytkjcjlembepdkaa.Sh
open Go.Proofs.Ytkjcjlembepdkaa.FW
abbrev dColor : D := .pair (.int .i64) (.pair (.slc (.int .i64)) (.pair (.slc (.slc (.int .i64))) .nil))
abbrev dRect : D := .pair (.int .i64) (.pair (.int .i64) (.pair (.int .i64) (.pair (.int .i64) .nil)))
abbrev dComp : D := .pair (.int .i64) (.pair .bool (.pair (.int .i64) (.pair (.int .i64) .nil)))
abbrev dHeader : D := .pair dRect (.pair (.int .i64) (.pair (.int .i64) (.pair (.slc dComp) .nil)))
def i64s (xs : List Int) : Prop := ∀ v ∈ xs, -9223372036854775808 ≤ v ∧ v ≤ 9223372036854775807
theorem ints_of {H : Heap} : ∀ (es : List (List Value)), (∀ e ∈ es, Shp (.int .i64) H e) → ∃ xs : List Int, xs.length = es.length ∧ es.flatten = ints xs ∧ i64s xs := by
  intro es
  induction es with
  | nil => intro _; exact ⟨[], rfl, rfl, fun v h => by cases h⟩
  | cons e es ih =>
    intro h
    obtain ⟨xs, h1, h2, h3⟩ := ih fun x hx => h x (List.mem_cons_of_mem _ hx)
    obtain ⟨a, rfl, ha⟩ := h e (by simp)
    refine ⟨a :: xs, by simp [h1], by rw [List.flatten_cons, h2]; rfl, fun v hv => ?_⟩
    rcases List.mem_cons.1 hv with rfl | hv
    · exact wf_64 ha
    · exact h3 v hv
theorem rows_of {H : Heap} : ∀ (es : List (List Value)), (∀ e ∈ es, Shp (.slc (.int .i64)) H e) → ∃ rows : List Rw, rows.length = es.length ∧ es.flatten = rows.map rc ∧ ∀ r ∈ rows, Shows H r.1 (ints r.2.2) ∧ i64s r.2.2 := by
  intro es
  induction es with
  | nil => intro _; exact ⟨[], rfl, rfl, fun v h => by cases h⟩
  | cons e es ih =>
    intro h
    obtain ⟨rows, h1, h2, h3⟩ := ih fun x hx => h x (List.mem_cons_of_mem _ hx)
    obtain ⟨q, c, es', rfl, _, _, he, hs⟩ := h e (by simp)
    obtain ⟨xs, g1, g2, g3⟩ := ints_of es' he
    rw [g2] at hs
    refine ⟨(q, c, xs) :: rows, by simp [h1], by rw [List.flatten_cons, h2, ← g1]; rfl, fun v hv => ?_⟩
    rcases List.mem_cons.1 hv with rfl | hv
    · exact ⟨hs, g3⟩
    · exact h3 v hv
theorem comps_of {H : Heap} : ∀ (es : List (List Value)), (∀ e ∈ es, Shp dComp H e) → ∃ cs : List Cm, cs.length = es.length ∧ es.flatten = cs.flatMap cmc := by
  intro es
  induction es with
  | nil => intro _; exact ⟨[], rfl, rfl⟩
  | cons e es ih =>
    intro h
    obtain ⟨cs, h1, h2⟩ := ih fun x hx => h x (List.mem_cons_of_mem _ hx)
    obtain ⟨_, _, rfl, ⟨a, rfl, _⟩, _, _, rfl, ⟨b, rfl⟩, _, _, rfl, ⟨c, rfl, _⟩, _, y4, rfl, ⟨d, rfl, _⟩, hn⟩ := h e (by simp)
    have hn' : y4 = [] := hn
    subst hn'
    exact ⟨(a, b, c, d) :: cs, by simp [h1], by rw [List.flatten_cons, h2]; rfl⟩
theorem color_of {H : Heap} {vs : List Value} (h : Shp dColor H vs) : ∃ (s : Int) (q : Option Addr) (rs : List Int) (c : Nat) (q2 : Option Addr) (rows : List Rw) (c2 : Nat), vs = [.int .i64 s, .slice q rs.length c, .slice q2 rows.length c2] ∧ Shows H q (ints rs) ∧ PalS H q2 rows ∧ i64s rs ∧ (∀ r ∈ rows, i64s r.2.2) ∧ i64s [s] := by
  obtain ⟨_, _, rfl, ⟨s, rfl, hw⟩, _, _, rfl, ⟨q, c, es, rfl, _, _, he, hs⟩, _, y, rfl, ⟨q2, c2, es2, rfl, _, _, he2, hs2⟩, hn⟩ := h
  have hn' : y = [] := hn
  subst hn'
  obtain ⟨rs, g1, g2, g3⟩ := ints_of es he
  obtain ⟨rows, f1, f2, f3⟩ := rows_of es2 he2
  rw [g2] at hs
  rw [f2] at hs2
  exact ⟨s, q, rs, c, q2, rows, c2, by rw [g1, f1]; rfl, hs, ⟨hs2, fun r hr => (f3 r hr).1⟩, g3, fun r hr => (f3 r hr).2, fun v hv => by simp at hv; subst hv; exact wf_64 hw⟩
theorem header_of {H : Heap} {vs : List Value} (h : Shp dHeader H vs) : ∃ (n1 n2 n3 n4 n5 n6 : Int) (q : Option Addr) (cs : List Cm) (c : Nat), vs = [.int .i64 n1, .int .i64 n2, .int .i64 n3, .int .i64 n4, .int .i64 n5, .int .i64 n6, .slice q cs.length c] ∧ Shows H q (cs.flatMap cmc) := by
  obtain ⟨r, _, rfl, ⟨_, _, rfl, ⟨a, rfl, _⟩, _, _, rfl, ⟨b, rfl, _⟩, _, _, rfl, ⟨c, rfl, _⟩, _, y4, rfl, ⟨d, rfl, _⟩, hn⟩, _, _, rfl, ⟨e, rfl, _⟩, _, _, rfl, ⟨f, rfl, _⟩, _, y, rfl, ⟨q, cc, es, rfl, _, _, he, hs⟩, hn2⟩ := h
  have hn' : y4 = [] := hn
  have hn2' : y = [] := hn2
  subst hn' hn2'
  obtain ⟨cs, g1, g2⟩ := comps_of es he
  rw [g2] at hs
  exact ⟨a, b, c, d, e, f, q, cs, cc, by rw [g1]; rfl, hs⟩
end Go.Proofs.Ytkjcjlembepdkaa.Sh
