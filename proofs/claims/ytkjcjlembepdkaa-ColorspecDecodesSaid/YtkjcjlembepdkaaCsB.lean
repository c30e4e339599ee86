/- Colorspec: sorting a few numbers, and whether two of them are alike. -/
import Derived.Test.YtkjcjlembepdkaaSh0
import Derived.Test.YtkjcjlembepdkaaSh1
import Derived.Test.YtkjcjlembepdkaaCsA
set_option linter.unusedVariables false
set_option linter.unusedSimpArgs false
namespace Go.Proofs.Ytkjcjlembepdkaa.Sh
open Go.Proofs.Ytkjcjlembepdkaa.FW
/-- A row of numbers of one's own. -/
def iv (f : Nat → Int) : Nat → Value := fun i => .int .i64 (f i)
def up (f : Nat → Int) (i : Nat) (x : Int) : Nat → Int := fun j => if j = i then x else f j
theorem iv_up (f : Nat → Int) (i : Nat) (x : Int) : (fun j => if j = i then Value.int .i64 x else iv f j) = iv (up f i x) := by
  funext j; unfold iv up; split <;> rfl
def Oi (H : Heap) (b n : Nat) (f : Nat → Int) : Prop := ∃ z, Owns H b (vcells n (iv f)) z
theorem Oi.ld {H : Heap} {b n : Nat} {f : Nat → Int} (h : Oi H b n f) {i : Nat} (hi : i < n) (R : Type) (K : Int → Option R) : ldI .i64 H (some ⟨b, i, none⟩) K = K (f i) := by
  obtain ⟨z, h⟩ := h
  exact ldI_of (show pcell H (some ⟨b, i, none⟩) = some (.int .i64 (f i)) from (h.sees.cell i).trans (vcells_get n _ hi)) rfl K
theorem Oi.put {H : Heap} {b n : Nat} {f : Nat → Int} (h : Oi H b n f) {i : Nat} (hi : i < n) (x : Int) :
    ∃ H', (∀ (R : Type) (K : Heap → Option R), hst1 H (some ⟨b, i, none⟩) (.int .i64 x) K = K H') ∧ Oi H' b n (up f i x) ∧ But b H H' ∧ H'.length = H.length := by
  obtain ⟨z, h⟩ := h
  obtain ⟨H', e, o, l, s⟩ := hst1_own (o := i) h (by rw [vcells_len]; exact hi) (.int .i64 x)
  rw [vcells_set n _ hi, iv_up] at o
  exact ⟨H', e, ⟨z, o⟩, ⟨by omega, fun i _ hne => s i hne⟩, l⟩
theorem Oi.lt {H : Heap} {b n : Nat} {f : Nat → Int} (h : Oi H b n f) : b < H.length := by obtain ⟨z, h⟩ := h; exact h.lt
theorem Oi.of {H : Heap} {b z : Nat} {xs : List Int} (h : Owns H b (ints xs) z) : Oi H b xs.length fun i => xs.getD i 0 := by
  refine ⟨z, ?_⟩
  have : vcells xs.length (iv fun i => xs.getD i 0) = ints xs := by
    apply List.ext_getElem?
    intro i
    by_cases hi : i < xs.length
    · rw [vcells_get _ _ hi]; simp [iv, ints, hi]
    · rw [List.getElem?_eq_none (by rw [vcells_len]; omega), List.getElem?_eq_none (by rw [ints_len]; omega)]
  rw [this]; exact h
theorem hx1 (b l : Nat) {n : Int} {i : Nat} (hn : n = i) (hi : i < l) (R : Type) (K : Option Addr → Option R) : hidx (some ⟨b, 0, none⟩) l n 1 K = K (some ⟨b, i, none⟩) := by
  subst hn
  rw [hidx_1 b l 0 (i : Int) (by omega) (by omega)]
  simp
theorem less_eq (a b : Int) (R : Type) (K : Bool → Option R) : cmp_Less_int_ a b K = K (decide (a < b)) := by
  unfold cmp_Less_int_ cmp_Less_int__b cmp_isNaN_int_ cmp_isNaN_int__b
  exact go_ne rfl
/-- The sort's inner loop. -/
def ins : Nat → (Nat → Int) → (Nat → Int)
  | 0, f => f
  | j + 1, f => if f (j + 1) < f j then ins j (up (up f (j + 1) (f j)) j (f (j + 1))) else f
theorem ins_l (k : Nat) (b l c : Nat) (hl : l ≤ 1000000) (lo hi : Int) (ix : Int) (hlo : lo = 0) : ∀ (j n : Nat), j < n → j < l → ∀ (H : Heap) (f : Nat → Int), Oi H b l f →
    ∃ H', (∀ (R : Type) (KE : Option Addr → Nat → Nat → Int → Int → Int → Heap → Option R), slices_insertionSortOrdered_int__l1 k KE n (some ⟨b, 0, none⟩) l c lo hi ix (j : Int) H = KE (some ⟨b, 0, none⟩) l c lo hi ix H') ∧ Oi H' b l (ins j f) ∧ But b H H' ∧ H'.length = H.length := by
  intro j
  induction j with
  | zero =>
    intro n hn hj H f O
    obtain ⟨n, rfl⟩ : ∃ n', n = n' + 1 := ⟨n - 1, by omega⟩
    refine ⟨H, fun R KE => ?_, O, .refl _ _, rfl⟩
    unfold slices_insertionSortOrdered_int__l1 slices_insertionSortOrdered_int__l1_b slices_insertionSortOrdered_int__p2 slices_insertionSortOrdered_int__p2_b
    exact go_f (decide_eq_false (by omega)) rfl
  | succ j ih =>
    intro n hn hj H f O
    obtain ⟨n, rfl⟩ : ∃ n', n = n' + 1 := ⟨n - 1, by omega⟩
    have e1 : IntKind.wrap .i64 (((j + 1 : Nat) : Int) - 1) = ((j : Nat) : Int) := by rw [w64 (by omega) (by omega)]; omega
    by_cases hlt : f (j + 1) < f j
    · obtain ⟨H1, p1, O1, b1, n1⟩ := O.put (i := j + 1) hj (f j)
      obtain ⟨H2, p2, O2, b2, n2⟩ := O1.put (i := j) (by omega) (f (j + 1))
      obtain ⟨H3, e3, O3, b3, n3⟩ := ih n (by omega) (by omega) H2 _ O2
      have hins : ins (j + 1) f = ins j (up (up f (j + 1) (f j)) j (f (j + 1))) := by rw [ins, if_pos hlt]
      rw [hins]
      refine ⟨H3, fun R KE => ?_, O3, (b1.trans b2).trans b3, by omega⟩
      unfold slices_insertionSortOrdered_int__l1 slices_insertionSortOrdered_int__l1_b slices_insertionSortOrdered_int__p2 slices_insertionSortOrdered_int__p2_b
      refine go_t (decide_eq_true (by omega)) ?_
      rw [e1]
      refine (hx1 b l rfl hj _ _).trans ((O.ld hj _ _).trans ((hx1 b l rfl (by omega) _ _).trans ((O.ld (by omega) _ _).trans ((less_eq _ _ _ _).trans (go_t (decide_eq_true hlt) ?_)))))
      dsimp only
      rw [e1]
      refine (hx1 b l rfl (by omega) _ _).trans ((O.ld (by omega) _ _).trans ((hx1 b l rfl hj _ _).trans ((O.ld hj _ _).trans ((hx1 b l rfl hj _ _).trans ((p1 _ _).trans ((hx1 b l rfl (by omega) _ _).trans ((p2 _ _).trans ?_)))))))
      exact e3 R KE
    · have hins : ins (j + 1) f = f := by rw [ins, if_neg hlt]
      rw [hins]
      refine ⟨H, fun R KE => ?_, O, .refl _ _, rfl⟩
      unfold slices_insertionSortOrdered_int__l1 slices_insertionSortOrdered_int__l1_b slices_insertionSortOrdered_int__p2 slices_insertionSortOrdered_int__p2_b
      refine go_t (decide_eq_true (by omega)) ?_
      rw [e1]
      exact (hx1 b l rfl hj _ _).trans ((O.ld hj _ _).trans ((hx1 b l rfl (by omega) _ _).trans ((O.ld (by omega) _ _).trans ((less_eq _ _ _ _).trans (go_f (decide_eq_false hlt) rfl)))))
/-- The sort. -/
def srt : Nat → Nat → (Nat → Int) → (Nat → Int)
  | 0, _, f => f
  | m + 1, i, f => srt m (i + 1) (ins i f)
theorem srt_l (k : Nat) (b l c : Nat) (hl : l ≤ 1000000) (hk : l < k) : ∀ (m n i : Nat), m < n → l = i + m → ∀ (H : Heap) (f : Nat → Int), Oi H b l f →
    ∃ H', (∀ (R : Type) (KE : Heap → Option R), slices_insertionSortOrdered_int__l0 k KE n (some ⟨b, 0, none⟩) l c 0 (l : Int) (i : Int) H = KE H') ∧ Oi H' b l (srt m i f) ∧ But b H H' ∧ H'.length = H.length := by
  intro m
  induction m with
  | zero =>
    intro n i hn hi H f O
    obtain ⟨n, rfl⟩ : ∃ n', n = n' + 1 := ⟨n - 1, by omega⟩
    refine ⟨H, fun R KE => ?_, O, .refl _ _, rfl⟩
    unfold slices_insertionSortOrdered_int__l0 slices_insertionSortOrdered_int__l0_b
    exact go_f (decide_eq_false (by omega)) rfl
  | succ m ih =>
    intro n i hn hi H f O
    obtain ⟨n, rfl⟩ : ∃ n', n = n' + 1 := ⟨n - 1, by omega⟩
    obtain ⟨H1, e1, O1, b1, n1⟩ := ins_l k b l c hl 0 (l : Int) (i : Int) rfl i k (by omega) (by omega) H f O
    obtain ⟨H2, e2, O2, b2, n2⟩ := ih n (i + 1) (by omega) (by omega) H1 _ O1
    refine ⟨H2, fun R KE => ?_, O2, b1.trans b2, by omega⟩
    unfold slices_insertionSortOrdered_int__l0 slices_insertionSortOrdered_int__l0_b
    refine go_t (decide_eq_true (by omega)) ((e1 _ _).trans ?_)
    try dsimp only
    rw [w64 (n := (i : Int) + 1) (by omega) (by omega)]
    exact e2 R KE
/-- Two alike, below a bound. -/
def Dup (n : Nat) (f : Nat → Int) : Prop := ∃ i j, i < n ∧ j < n ∧ i ≠ j ∧ f i = f j
def tw (j i : Nat) : Nat := if i = j then j + 1 else if i = j + 1 then j else i
theorem tw_lt {n j i : Nat} (hj : j + 1 < n) (hi : i < n) : tw j i < n := by unfold tw; split <;> (try split) <;> omega
theorem tw_ne {j a b : Nat} (h : a ≠ b) : tw j a ≠ tw j b := by
  unfold tw; split <;> (try split) <;> (try split) <;> (try split) <;> omega
theorem tw_tw (j i : Nat) : tw j (tw j i) = i := by
  unfold tw
  by_cases h1 : i = j
  · subst h1; simp
  · by_cases h2 : i = j + 1
    · subst h2; simp
    · rw [if_neg h1, if_neg h2, if_neg h1, if_neg h2]
theorem up_tw (f : Nat → Int) (j i : Nat) : up (up f (j + 1) (f j)) j (f (j + 1)) i = f (tw j i) := by
  unfold up tw
  split
  · rfl
  · split <;> rfl
theorem dup_swap {n j : Nat} {f : Nat → Int} (hj : j + 1 < n) : Dup n (up (up f (j + 1) (f j)) j (f (j + 1))) ↔ Dup n f := by
  constructor
  · rintro ⟨a, b, ha, hb, hab, he⟩
    rw [up_tw, up_tw] at he
    exact ⟨tw j a, tw j b, tw_lt hj ha, tw_lt hj hb, tw_ne hab, he⟩
  · rintro ⟨a, b, ha, hb, hab, he⟩
    refine ⟨tw j a, tw j b, tw_lt hj ha, tw_lt hj hb, tw_ne hab, ?_⟩
    rw [up_tw, up_tw, tw_tw, tw_tw]; exact he
theorem dup_ins {n : Nat} : ∀ (j : Nat) (f : Nat → Int), j < n → (Dup n (ins j f) ↔ Dup n f) := by
  intro j
  induction j with
  | zero => intro f _; exact Iff.rfl
  | succ j ih =>
    intro f hj
    rw [ins]
    split
    · exact (ih _ (by omega)).trans (dup_swap hj)
    · exact Iff.rfl
theorem dup_srt {n : Nat} : ∀ (m i : Nat) (f : Nat → Int), i + m ≤ n → (Dup n (srt m i f) ↔ Dup n f) := by
  intro m
  induction m with
  | zero => intro i f _; exact Iff.rfl
  | succ m ih =>
    intro i f h
    rw [srt]
    exact (ih _ _ (by omega)).trans (dup_ins _ _ (by omega))
/-- Rising, below a bound. -/
def Ris (n : Nat) (f : Nat → Int) : Prop := ∀ a b, a < b → b < n → f a ≤ f b
theorem ins_keep : ∀ (j : Nat) (f : Nat → Int) (i : Nat), j < i → ins j f i = f i := by
  intro j
  induction j with
  | zero => intro f i _; rfl
  | succ j ih =>
    intro f i hi
    rw [ins]
    split
    · rw [ih _ _ (by omega), up_tw]; unfold tw; rw [if_neg (by omega), if_neg (by omega)]
    · rfl
theorem ins_ris : ∀ (j : Nat) (f : Nat → Int), Ris j f → Ris (j + 1) (ins j f) ∧ ∀ x, (∀ a, a ≤ j → f a ≤ x) → ∀ a, a ≤ j → ins j f a ≤ x := by
  intro j
  induction j with
  | zero => intro f _; exact ⟨fun a b h1 h2 => by omega, fun x h a ha => h a ha⟩
  | succ j ih =>
    intro f hf
    rw [ins]
    split
    · rename_i hlt
      have hg : Ris j (up (up f (j + 1) (f j)) j (f (j + 1))) := fun a b h1 h2 => by
        rw [up_tw, up_tw]
        have : tw j a = a := by unfold tw; rw [if_neg (by omega), if_neg (by omega)]
        have h3 : tw j b = b := by unfold tw; rw [if_neg (by omega), if_neg (by omega)]
        rw [this, h3]
        exact hf a b h1 (by omega)
      obtain ⟨g1, g2⟩ := ih _ hg
      have hb : ∀ a, a ≤ j → up (up f (j + 1) (f j)) j (f (j + 1)) a ≤ f j := fun a ha => by
        rw [up_tw]; unfold tw
        split
        · omega
        · rw [if_neg (by omega)]; exact hf a j (by omega) (by omega)
      have htop : ins j (up (up f (j + 1) (f j)) j (f (j + 1))) (j + 1) = f j := by
        rw [ins_keep _ _ _ (by omega), up_tw]; unfold tw; rw [if_neg (by omega), if_pos rfl]
      refine ⟨fun a b h1 h2 => ?_, fun x hx a ha => ?_⟩
      · by_cases hbj : b = j + 1
        · subst hbj; rw [htop]; exact g2 _ hb a (by omega)
        · exact g1 a b h1 (by omega)
      · by_cases haj : a = j + 1
        · subst haj; rw [htop]; exact hx j (by omega)
        · exact Int.le_trans (g2 _ hb a (by omega)) (hx j (by omega))
    · rename_i hlt
      refine ⟨fun a b h1 h2 => ?_, fun x hx a ha => hx a ha⟩
      by_cases hbj : b = j + 1
      · subst hbj
        by_cases haj : a = j
        · subst haj; omega
        · have := hf a j (by omega) (by omega); omega
      · exact hf a b h1 (by omega)
theorem srt_ris : ∀ (m i : Nat) (f : Nat → Int), Ris i f → Ris (i + m) (srt m i f) := by
  intro m
  induction m with
  | zero => intro i f h; exact h
  | succ m ih =>
    intro i f h
    rw [srt, show i + (m + 1) = (i + 1) + m from by omega]
    exact ih _ _ (ins_ris i f h).1
/-- In a rising row two that are alike stand side by side. -/
theorem ris_dup {n : Nat} {f : Nat → Int} (h : Ris n f) : Dup n f ↔ ∃ i, i + 1 < n ∧ f (i + 1) = f i := by
  constructor
  · rintro ⟨a, b, ha, hb, hab, he⟩
    have key : ∀ a b, a < b → b < n → f a = f b → ∃ i, i + 1 < n ∧ f (i + 1) = f i := fun a b h1 h2 he => by
      refine ⟨a, by omega, ?_⟩
      have x1 := h a (a + 1) (by omega) (by omega)
      by_cases hb : b = a + 1
      · subst hb; exact he.symm
      · have x2 := h (a + 1) b (by omega) h2; omega
    rcases Nat.lt_or_gt_of_ne hab with h1 | h1
    · exact key a b h1 hb he
    · exact key b a h1 ha he.symm
  · rintro ⟨i, hi, he⟩
    exact ⟨i, i + 1, by omega, hi, by omega, he.symm⟩
end Go.Proofs.Ytkjcjlembepdkaa.Sh
