/- Own blocks of single cells, by index; what a step elsewhere leaves of them. -/
import Derived.Test.YtjajknghcbpblaaFwM
set_option linter.unusedVariables false
set_option linter.unusedSimpArgs false
namespace Go.Proofs.Ytjajknghcbpblaa.FW
variable {R : Type}
theorem pad_some (b o i : Nat) (s : Option _) : pad (some ⟨b, o, s⟩) i = some ⟨b, o + i, none⟩ := rfl
/-- Cells by index. -/
def vcells (n : Nat) (f : Nat → Value) : List Value := (List.range n).map f
theorem vcells_len (n : Nat) (f : Nat → Value) : (vcells n f).length = n := by simp [vcells]
theorem vcells_get (n : Nat) (f : Nat → Value) {i : Nat} (h : i < n) : (vcells n f)[i]? = some (f i) := by simp [vcells, h]
theorem vcells_set (n : Nat) (f : Nat → Value) {i : Nat} (h : i < n) (v : Value) : (vcells n f).set i v = vcells n (fun j => if j = i then v else f j) := by
  apply List.ext_getElem?
  intro j
  rw [List.getElem?_set, vcells_len]
  by_cases hj : j < n
  · rw [vcells_get n _ hj, vcells_get n _ hj]
    by_cases e : i = j
    · subst e; simp [h]
    · rw [if_neg e, if_neg (Ne.symm e)]
  · rw [if_neg (by omega), List.getElem?_eq_none (by rw [vcells_len]; omega), List.getElem?_eq_none (by rw [vcells_len]; omega)]
theorem vcells_congr {n : Nat} {f g : Nat → Value} (h : ∀ i, i < n → f i = g i) : vcells n f = vcells n g := by
  unfold vcells
  exact List.map_congr_left fun i hi => h i (List.mem_range.1 hi)
theorem mkCells_v (z : Value) (n : Nat) : mkCells [z] n = vcells n (fun _ => z) := by
  induction n with
  | zero => rfl
  | succ n ih =>
    unfold vcells
    rw [List.range_succ_eq_map]
    show [z] ++ mkCells [z] n = _
    rw [ih]
    simp [vcells]
/-- What is elsewhere is as it was. -/
def But (b : Nat) (H H' : Heap) : Prop := H.length ≤ H'.length ∧ ∀ i, i < H.length → i ≠ b → hblk H' i = hblk H i
theorem But.refl (b : Nat) (H : Heap) : But b H H := ⟨Nat.le_refl _, fun _ _ _ => rfl⟩
theorem But.of_old {b : Nat} {H H' : Heap} (o : Old H.length H H') : But b H H' := ⟨o.1, fun i hi _ => o.2 i hi⟩
theorem But.trans {b : Nat} {H1 H2 H3 : Heap} (x : But b H1 H2) (y : But b H2 H3) : But b H1 H3 := ⟨Nat.le_trans x.1 y.1, fun i hi hne => (y.2 i (Nat.lt_of_lt_of_le hi x.1) hne).trans (x.2 i hi hne)⟩
theorem But.old {b N : Nat} {H H' : Heap} (x : But b H H') (hb : N ≤ b) (hN : N ≤ H.length) : Old N H H' := ⟨x.1, fun i hi => x.2 i (by omega) (by omega)⟩
theorem Owns.but {H H' : Heap} {b c sz : Nat} {cs : List Value} (h : Owns H b cs sz) (o : But c H H') (hne : b ≠ c) : Owns H' b cs sz := by
  unfold Owns at *; rw [o.2 b (hblk_lt h) hne]; exact h
theorem Sees.but {H H' : Heap} {b c : Nat} {cs : List Value} (h : Sees H b cs) (o : But c H H') (hne : b ≠ c) : Sees H' b cs := by
  have := h.lt
  obtain ⟨B, h, rfl⟩ := h
  exact ⟨B, by rw [o.2 b this hne]; exact h, rfl⟩
theorem Owns.lt {H : Heap} {b sz : Nat} {cs : List Value} (h : Owns H b cs sz) : b < H.length := hblk_lt h
/-- An own block of n cells. -/
def OwnV (H : Heap) (b n : Nat) (f : Nat → Value) : Prop := Owns H b (vcells n f) 0
theorem OwnV.but {H H' : Heap} {b c n : Nat} {f : Nat → Value} (h : OwnV H b n f) (o : But c H H') (hne : b ≠ c) : OwnV H' b n f := Owns.but h o hne
theorem OwnV.keep {H H' : Heap} {b n : Nat} {f : Nat → Value} (h : OwnV H b n f) (o : Old H.length H H') : OwnV H' b n f := Owns.old h o (Owns.lt h)
theorem OwnV.congr {H : Heap} {b n : Nat} {f g : Nat → Value} (h : OwnV H b n f) (e : ∀ i, i < n → f i = g i) : OwnV H b n g := by unfold OwnV at *; rw [← vcells_congr e]; exact h
theorem OwnV.cell {H : Heap} {b n : Nat} {f : Nat → Value} (h : OwnV H b n f) {i : Nat} (hi : i < n) (s : Option _) : pcell H (some ⟨b, i, s⟩) = some (f i) := by
  show hcell H b i = _
  rw [h.sees.cell, vcells_get n f hi]
theorem OwnV.put {H : Heap} {b n : Nat} {f : Nat → Value} (h : OwnV H b n f) {i : Nat} (hi : i < n) (v : Value) :
    ∃ H', (∀ (R : Type) (K : Heap → Option R), hst1 H (some ⟨b, i, none⟩) v K = K H') ∧ OwnV H' b n (fun j => if j = i then v else f j) ∧ But b H H' ∧ H'.length = H.length := by
  obtain ⟨H', e, o, l, s⟩ := hst1_own (o := i) h (by rw [vcells_len]; exact hi) v
  rw [vcells_set n f hi] at o
  exact ⟨H', e, o, ⟨by omega, fun i _ hne => s i hne⟩, l⟩
theorem hidx_1 (b n : Nat) (c : Nat) (i : Int) (h0 : 0 ≤ i) (h1 : i < n) (R : Type) (K : Option Addr → Option R) : hidx (some ⟨b, c, none⟩) n i 1 K = K (some ⟨b, c + i.toNat, none⟩) := by
  simp only [hidx]; rw [if_pos ⟨h0, h1⟩, Nat.mul_one]
/-- A new block of n equal cells. -/
theorem OwnV.make {bytes : Nat} (H : Heap) (z : Value) {n : Nat} (h1 : n * bytes ≤ 140737488355328) (h2 : n ≤ 140737488355328) :
    ∃ H', (∀ (R : Type) (K : Option Addr → Nat → Nat → Heap → Option R), hmk [z] bytes H (n : Int) (n : Int) K = K (some ⟨H.length, 0, none⟩) n n H') ∧ OwnV H' H.length n (fun _ => z) ∧ Old H.length H H' ∧ H'.length = H.length + 1 := by
  refine ⟨H ++ [some ⟨mkCells [z] n, false, 0⟩], fun R K => ?_, ?_, Old.app _ _, by simp⟩
  · unfold hmk
    have h3 : ((n * bytes : Nat) : Int) ≤ 140737488355328 := by omega
    rw [Int.natCast_mul] at h3
    rw [if_pos ⟨by omega, by omega, h3, by omega⟩]
    rfl
  · show hblk _ _ = _
    rw [mkCells_v]; exact app_new H _ []
/-- A struct of one's own: made, then stored into. -/
theorem hal_st (H : Heap) (zs vs : List Value) (hl : vs.length = zs.length) (ho : vs.all oneC = true) : ∃ H1 H', (∀ (R : Type) (K : Option Addr → Heap → Option R), hal H zs K = K (some ⟨H.length, 0, none⟩) H1) ∧ (∀ (R : Type) (K : Heap → Option R), hst H1 (some ⟨H.length, 0, none⟩) vs K = K H') ∧ Owns H' H.length vs 0 ∧ Old H.length H H' ∧ H'.length = H.length + 1 := by
  obtain ⟨p, H1, e1, hp, g1, g2, g3⟩ := hal_of H zs
  subst hp
  obtain ⟨H', e2, o, n, s⟩ := hst_own (o := 0) g1 (by omega) ho
  have hs : splice zs 0 vs = vs := by unfold splice; rw [Nat.zero_add, hl]; simp
  rw [hs] at o
  exact ⟨H1, H', e1, e2, o, ⟨by have := g2.1; omega, fun i hi => (s i (by omega)).trans (g2.2 i hi)⟩, by omega⟩
/-- The cells of a struct. -/
theorem Owns.at {H : Heap} {b sz : Nat} {cs : List Value} (h : Owns H b cs sz) (i : Nat) (s : Option _) : pcell H (some ⟨b, i, s⟩) = cs[i]? := by
  show hcell H b i = _
  rw [h.sees.cell]
end Go.Proofs.Ytjajknghcbpblaa.FW
