/- What the own machine's heap operations come to, said of what a block holds. -/
import Derived.Test.YtjajknghcbpblaaFwL
set_option linter.unusedVariables false
set_option linter.unusedSimpArgs false
namespace Go.Proofs.Ytjajknghcbpblaa.FW
variable {R : Type}
theorem app_old {H J : Heap} {b : Nat} (h : b < H.length) : hblk (H ++ J) b = hblk H b := by
  rw [hblk_append]; unfold hpu; rw [if_neg (by omega)]
theorem app_new (H : Heap) (x : Option Blk) (J : Heap) : hblk (H ++ x :: J) H.length = x := by
  rw [hblk_append]; unfold hpu; rw [if_pos (by simp)]; simp [hblk]
/-- What lies below N is as it was. -/
def Old (N : Nat) (H H' : Heap) : Prop := H.length ≤ H'.length ∧ ∀ b, b < N → hblk H' b = hblk H b
theorem Old.refl (N : Nat) (H : Heap) : Old N H H := ⟨Nat.le_refl _, fun _ _ => rfl⟩
theorem Old.trans {N : Nat} {H1 H2 H3 : Heap} (a : Old N H1 H2) (b : Old N H2 H3) : Old N H1 H3 := ⟨Nat.le_trans a.1 b.1, fun i hi => (b.2 i hi).trans (a.2 i hi)⟩
theorem Old.mono {N M : Nat} {H H' : Heap} (a : Old N H H') (h : M ≤ N) : Old M H H' := ⟨a.1, fun i hi => a.2 i (Nat.lt_of_lt_of_le hi h)⟩
theorem Old.app (H J : Heap) : Old H.length H (H ++ J) := ⟨by simp, fun _ hb => app_old hb⟩
/-- The cells that a block holds. -/
def Sees (H : Heap) (b : Nat) (cs : List Value) : Prop := ∃ B, hblk H b = some B ∧ B.cells = cs
def Owns (H : Heap) (b : Nat) (cs : List Value) (sz : Nat) : Prop := hblk H b = some ⟨cs, false, sz⟩
theorem Owns.sees {H : Heap} {b sz : Nat} {cs : List Value} (h : Owns H b cs sz) : Sees H b cs := ⟨_, h, rfl⟩
theorem Sees.lt {H : Heap} {b : Nat} {cs : List Value} (h : Sees H b cs) : b < H.length := by obtain ⟨B, h, _⟩ := h; exact hblk_lt h
theorem Sees.ro {H : Heap} {b : Nat} {cs : List Value} (h : Sees H b cs) : Sees (roH H) b cs := by
  obtain ⟨B, h, rfl⟩ := h
  exact ⟨⟨B.cells, true, B.sz⟩, by rw [hblk_ro, h]; rfl, rfl⟩
theorem Sees.old {H H' : Heap} {b N : Nat} {cs : List Value} (h : Sees H b cs) (o : Old N H H') (hb : b < N) : Sees H' b cs := by
  obtain ⟨B, h, rfl⟩ := h
  exact ⟨B, by rw [o.2 b hb]; exact h, rfl⟩
theorem Owns.old {H H' : Heap} {b N sz : Nat} {cs : List Value} (h : Owns H b cs sz) (o : Old N H H') (hb : b < N) : Owns H' b cs sz := by
  unfold Owns at *; rw [o.2 b hb]; exact h
theorem Sees.cell {H : Heap} {b : Nat} {cs : List Value} (h : Sees H b cs) (o : Nat) : hcell H b o = cs[o]? := by
  obtain ⟨B, h, rfl⟩ := h
  unfold hcell; rw [h]
/-- What is read at an address. -/
def pcell (H : Heap) (p : Option Addr) : Option Value := match p with
  | some ⟨b, o, _⟩ => hcell H b o
  | none => none
theorem ldI_of {H : Heap} {p : Option Addr} {k : IntKind} {n : Int} (h : pcell H p = some (.int k n)) (hk : ikeq k k = true) (K : Int → Option R) : ldI k H p K = K n := by
  cases p with
  | none => cases h
  | some a => obtain ⟨b, o, s⟩ := a; simp only [pcell] at h; simp only [ldI, h, hk, cond_true]
theorem ldB_of {H : Heap} {p : Option Addr} {n : Bool} (h : pcell H p = some (.bool n)) (K : Bool → Option R) : ldB H p K = K n := by
  cases p with
  | none => cases h
  | some a => obtain ⟨b, o, s⟩ := a; simp only [pcell] at h; simp only [ldB, h]
theorem ldP_of {H : Heap} {p : Option Addr} {n : Option Addr} (h : pcell H p = some (.pointer n)) (K : Option Addr → Option R) : ldP H p K = K n := by
  cases p with
  | none => cases h
  | some a => obtain ⟨b, o, s⟩ := a; simp only [pcell] at h; simp only [ldP, h]
theorem ldL_of {H : Heap} {p q : Option Addr} {l c : Nat} (h : pcell H p = some (.slice q l c)) (K : Option Addr → Nat → Nat → Option R) : ldL H p K = K q l c := by
  cases p with
  | none => cases h
  | some a => obtain ⟨b, o, s⟩ := a; simp only [pcell] at h; simp only [ldL, h]
theorem hal_of (H : Heap) (cs : List Value) : ∃ p H', (∀ (R : Type) (K : Option Addr → Heap → Option R), hal H cs K = K p H') ∧ p = some ⟨H.length, 0, none⟩ ∧ Owns H' H.length cs 0 ∧ Old H.length H H' ∧ H'.length = H.length + 1 :=
  ⟨_, _, fun _ _ => rfl, rfl, app_new H _ [], Old.app _ _, by simp⟩
/-- What a slice shows. -/
def Shows (H : Heap) (q : Option Addr) (cs : List Value) : Prop := cs = [] ∨ ∃ b o full, q = some ⟨b, o, none⟩ ∧ Sees H b full ∧ o + cs.length ≤ full.length ∧ (full.drop o).take cs.length = cs
def Below (N : Nat) (q : Option Addr) : Prop := ∀ a, q = some a → a.block < N
theorem Shows.old {H H' : Heap} {q : Option Addr} {N : Nat} {cs : List Value} (h : Shows H q cs) (o : Old N H H') (hb : cs = [] ∨ Below N q) : Shows H' q cs := by
  rcases h with h | ⟨b, o', full, rfl, h1, h2, h3⟩
  · exact .inl h
  · rcases hb with hb | hb
    · exact .inl hb
    · exact .inr ⟨b, o', full, rfl, h1.old o (hb _ rfl), h2, h3⟩
theorem Shows.ro {H : Heap} {q : Option Addr} {cs : List Value} (h : Shows H q cs) : Shows (roH H) q cs := by
  rcases h with h | ⟨b, o', full, rfl, h1, h2, h3⟩
  · exact .inl h
  · exact .inr ⟨b, o', full, rfl, h1.ro, h2, h3⟩
theorem Sees.shows {H : Heap} {b : Nat} {cs : List Value} (h : Sees H b cs) : Shows H (some ⟨b, 0, none⟩) cs := .inr ⟨b, 0, cs, rfl, h, by simp, by simp⟩
/-- An element of a slice. -/
theorem Shows.idx {H : Heap} {q : Option Addr} {l size : Nat} {cs : List Value} (h : Shows H q cs) (hl : l * size ≤ cs.length) {i : Int} (h0 : 0 ≤ i) (h1 : i < l) (hs : 0 < size) :
    ∃ p, (∀ (R : Type) (K : Option Addr → Option R), hidx q l i size K = K p) ∧ (∀ j v, cs[i.toNat * size + j]? = some v → j < size → pcell H (pad p j) = some v) ∧ (∀ v, cs[i.toNat * size]? = some v → pcell H p = some v) := by
  have hlt : i.toNat * size + size ≤ l * size := by
    have : i.toNat + 1 ≤ l := by omega
    have := Nat.mul_le_mul_right size this
    rwa [Nat.add_mul, Nat.one_mul] at this
  rcases h with h | ⟨b, o, full, rfl, h3, h4, h5⟩
  · subst h; simp at hl; omega
  · refine ⟨some ⟨b, o + i.toNat * size, none⟩, fun R K => by simp only [hidx]; rw [if_pos ⟨h0, h1⟩], fun j v hv hj => ?_, fun v hv => ?_⟩
    · simp only [pad, pcell, h3.cell]
      rw [← h5, List.getElem?_take, List.getElem?_drop] at hv
      split at hv
      · rw [show o + i.toNat * size + j = o + (i.toNat * size + j) from by omega]; exact hv
      · cases hv
    · simp only [pcell, h3.cell]
      rw [← h5, List.getElem?_take, List.getElem?_drop] at hv
      split at hv
      · exact hv
      · cases hv
theorem Shows.hcells {H : Heap} {q : Option Addr} {cs : List Value} (h : Shows H q cs) : FW.hcells H q cs.length = some cs := by
  unfold FW.hcells
  rcases h with h | ⟨b, o, full, rfl, ⟨B, h3, rfl⟩, h4, h5⟩
  · subst h; rfl
  · split
    · rename_i h0; rw [List.length_eq_zero_iff.1 h0]
    · simp only [h3]; rw [if_pos h4, h5]
/-- A slice that has grown by appending, out of nothing. -/
def Bld (N size : Nat) (H : Heap) (q : Option Addr) (l c : Nat) (cs : List Value) : Prop :=
  (q = none ∧ l = 0 ∧ c = 0 ∧ cs = []) ∨ ∃ b, q = some ⟨b, 0, none⟩ ∧ c = unk ∧ N ≤ b ∧ Owns H b cs size ∧ l * size = cs.length
theorem Bld.nil (N size : Nat) (H : Heap) : Bld N size H none 0 0 [] := .inl ⟨rfl, rfl, rfl, rfl⟩
theorem Bld.shows {N size : Nat} {H : Heap} {q : Option Addr} {l c : Nat} {cs : List Value} (h : Bld N size H q l c cs) : Shows H q cs ∧ l * size = cs.length := by
  rcases h with ⟨rfl, rfl, rfl, rfl⟩ | ⟨b, rfl, _, _, h1, h2⟩
  · exact ⟨.inl rfl, by simp⟩
  · exact ⟨h1.sees.shows, h2⟩
theorem Bld.old {N M size : Nat} {H H' : Heap} {q : Option Addr} {l c : Nat} {cs : List Value} (h : Bld N size H q l c cs) (o : Old M H H') (hM : H.length ≤ M) : Bld N size H' q l c cs := by
  rcases h with h | ⟨b, h1, h2, h3, h4, h5⟩
  · exact .inl h
  · exact .inr ⟨b, h1, h2, h3, h4.old o (Nat.lt_of_lt_of_le h4.sees.lt hM), h5⟩
theorem Bld.below {N size : Nat} {H : Heap} {q : Option Addr} {l c : Nat} {cs : List Value} (h : Bld N size H q l c cs) : Below H.length q := by
  rcases h with ⟨rfl, _⟩ | ⟨b, rfl, _, _, h1, h2⟩
  · intro a ha; cases ha
  · intro a ha; cases ha; exact h1.sees.lt
theorem unk_ne {l : Nat} (h : l ≤ 35184372088832) : l ≠ unk := by unfold unk; omega
/-- Appends to such a slice. -/
theorem Bld.app {N size bytes : Nat} {H : Heap} {q p : Option Addr} {l c n : Nat} {cs xs : List Value} (h : Bld N size H q l c cs) (hN : N ≤ H.length) (hp : Shows H p xs) (hx : xs.length = n * size) (hb : (l + n) * bytes ≤ 35184372088832) (hn : 0 < n) :
    ∃ q' H', (∀ (R : Type) (K : Option Addr → Nat → Nat → Heap → Option R), happS size bytes H q l c p n K = K q' (l + n) unk H') ∧ Bld N size H' q' (l + n) unk (cs ++ xs) ∧ Old N H H' ∧ H'.length = H.length + 1 := by
  have hc := hp.hcells
  rw [hx] at hc
  have hlen : N ≤ H.length := hN
  rcases h with ⟨rfl, rfl, rfl, rfl⟩ | ⟨b, rfl, rfl, h3, h4, h5⟩
  · refine ⟨some ⟨H.length, 0, none⟩, H ++ [some ⟨xs, false, size⟩], fun R K => ?_, .inr ⟨H.length, rfl, rfl, hlen, (show hblk _ _ = _ from app_new H (some ⟨xs, false, size⟩) []), by simp [hx]⟩, (Old.app _ _).mono hlen, by simp⟩
    unfold happS happ
    rw [hc]
    simp only
    rw [if_neg (by unfold unk; omega), if_neg (by omega), if_pos hb]
    simp [FW.hcells]
  · have hblt := h4.sees.lt
    have h4' : hblk H b = some ⟨cs, false, size⟩ := h4
    refine ⟨some ⟨H.length, 0, none⟩, hset H b none ++ [some ⟨cs ++ xs, false, size⟩], fun R K => ?_, .inr ⟨H.length, rfl, rfl, hlen, ?_, by rw [Nat.add_mul, h5, List.length_append, hx]⟩, ⟨by simp [hset_length], fun i hi => ?_⟩, by simp [hset_length]⟩
    · unfold happS happ
      rw [hc]
      simp only [if_true, h4', cond_false, h5, hb, true_and, and_self]
    · have := app_new (hset H b none) (some ⟨cs ++ xs, false, size⟩) []
      rwa [hset_length] at this
    · rw [app_old (by rw [hset_length]; omega), hset_get, if_neg (by omega)]
/-- A slice that was made with a capacity, and has been filled so far. -/
def Cap (N size : Nat) (H : Heap) (q : Option Addr) (l c : Nat) (cs : List Value) : Prop :=
  ∃ b z, q = some ⟨b, 0, none⟩ ∧ c < unk ∧ N ≤ b ∧ Owns H b (cs ++ z) 0 ∧ l * size = cs.length ∧ c * size = cs.length + z.length
theorem Cap.shows {N size : Nat} {H : Heap} {q : Option Addr} {l c : Nat} {cs : List Value} (h : Cap N size H q l c cs) : Shows H q cs ∧ l * size = cs.length := by
  obtain ⟨b, z, rfl, _, _, h1, h2, _⟩ := h
  exact ⟨.inr ⟨b, 0, cs ++ z, rfl, h1.sees, by simp, by simp⟩, h2⟩
theorem Cap.old {N M size : Nat} {H H' : Heap} {q : Option Addr} {l c : Nat} {cs : List Value} (h : Cap N size H q l c cs) (o : Old M H H') (hM : H.length ≤ M) : Cap N size H' q l c cs := by
  obtain ⟨b, z, h1, h2, h3, h4, h5⟩ := h
  exact ⟨b, z, h1, h2, h3, h4.old o (Nat.lt_of_lt_of_le h4.sees.lt hM), h5⟩
theorem Cap.below {N size : Nat} {H : Heap} {q : Option Addr} {l c : Nat} {cs : List Value} (h : Cap N size H q l c cs) : Below H.length q := by
  obtain ⟨b, z, rfl, _, _, h1, _⟩ := h
  intro a ha; cases ha; exact h1.sees.lt
theorem Cap.app {N size bytes : Nat} {H : Heap} {q p : Option Addr} {l c n : Nat} {cs xs : List Value} (h : Cap N size H q l c cs) (hp : Shows H p xs) (hx : xs.length = n * size) (hone : xs.all oneC = true) (hb : l + n ≤ c) (hn : 0 < n) :
    ∃ H', (∀ (R : Type) (K : Option Addr → Nat → Nat → Heap → Option R), happS size bytes H q l c p n K = K q (l + n) c H') ∧ Cap N size H' q (l + n) c (cs ++ xs) ∧ Old N H H' ∧ H'.length = H.length := by
  have hc := hp.hcells
  rw [hx] at hc
  obtain ⟨b, z, rfl, h2, h3, h4, h5, h6⟩ := h
  have h4' : hblk H b = some ⟨cs ++ z, false, 0⟩ := h4
  have hlen : cs.length + xs.length ≤ (cs ++ z).length := by
    have := Nat.mul_le_mul_right size hb
    rw [Nat.add_mul] at this
    rw [List.length_append]; omega
  have hsp : splice (cs ++ z) cs.length xs = (cs ++ xs) ++ z.drop xs.length := by
    unfold splice
    rw [List.take_left, List.drop_append, List.drop_eq_nil_of_le (by omega)]
    rw [show cs.length + xs.length - cs.length = xs.length from by omega]
    simp only [List.append_assoc, List.nil_append]
  refine ⟨hset H b (some ⟨(cs ++ xs) ++ z.drop xs.length, false, 0⟩), fun R K => ?_, ⟨b, z.drop xs.length, rfl, h2, h3, ?_, ?_, ?_⟩, ⟨by simp [hset_length], fun i hi => ?_⟩, by simp [hset_length]⟩
  · unfold happS happ
    rw [hc]
    simp only
    rw [if_neg (by omega), if_pos hb, if_neg (by omega)]
    unfold hst pad
    simp only [h4', cond_false, Nat.zero_add, h5]
    rw [if_pos hlen, hone, cond_true, hsp]
  · unfold Owns; rw [hset_get, if_pos ⟨rfl, h4.sees.lt⟩]
  · rw [Nat.add_mul, h5, List.length_append, hx]
  · rw [List.length_append, List.length_drop, h6]
    rw [List.length_append] at hlen; omega
  · rw [hset_get, if_neg (by omega)]
/-- Writes into an own block. -/
theorem hst_own {H : Heap} {b o sz : Nat} {cs vs : List Value} (h : Owns H b cs sz) (hl : o + vs.length ≤ cs.length) (hone : vs.all oneC = true) :
    ∃ H', (∀ (R : Type) (K : Heap → Option R), hst H (some ⟨b, o, none⟩) vs K = K H') ∧ Owns H' b (splice cs o vs) sz ∧ H'.length = H.length ∧ ∀ i, i ≠ b → hblk H' i = hblk H i := by
  have h' : hblk H b = some ⟨cs, false, sz⟩ := h
  refine ⟨hset H b (some ⟨splice cs o vs, false, sz⟩), fun R K => ?_, ?_, hset_length _ _ _, fun i hi => by rw [hset_get, if_neg (fun hh => hi hh.1)]⟩
  · simp only [hst, h', cond_false]; rw [if_pos hl, hone, cond_true]
  · unfold Owns; rw [hset_get, if_pos ⟨rfl, h.sees.lt⟩]
theorem hst1_own {H : Heap} {b o sz : Nat} {cs : List Value} (h : Owns H b cs sz) (hl : o < cs.length) (v : Value) :
    ∃ H', (∀ (R : Type) (K : Heap → Option R), hst1 H (some ⟨b, o, none⟩) v K = K H') ∧ Owns H' b (cs.set o v) sz ∧ H'.length = H.length ∧ ∀ i, i ≠ b → hblk H' i = hblk H i := by
  have h' : hblk H b = some ⟨cs, false, sz⟩ := h
  refine ⟨hset H b (some ⟨cs.set o v, false, sz⟩), fun R K => ?_, ?_, hset_length _ _ _, fun i hi => by rw [hset_get, if_neg (fun hh => hi hh.1)]⟩
  · simp only [hst1, h', cond_false]; rw [if_pos hl]
  · unfold Owns; rw [hset_get, if_pos ⟨rfl, h.sees.lt⟩]
theorem old_of {N : Nat} {H H' : Heap} {b : Nat} (hl : H'.length = H.length) (hs : ∀ i, i ≠ b → hblk H' i = hblk H i) (hb : N ≤ b) : Old N H H' := ⟨by omega, fun i hi => hs i (by omega)⟩
theorem mkCells_length (z : List Value) : ∀ n, (mkCells z n).length = n * z.length := by
  intro n
  induction n with
  | zero => simp [mkCells]
  | succ n ih => simp [mkCells, ih, Nat.add_mul, Nat.add_comm]
theorem Cap.make {size bytes : Nat} (H : Heap) (z : List Value) (hz : z.length = size) {n : Nat} (h1 : n * bytes ≤ 140737488355328) (h2 : n ≤ 140737488355328) :
    ∃ q H', (∀ (R : Type) (K : Option Addr → Nat → Nat → Heap → Option R), hmk z bytes H 0 n K = K q 0 n H') ∧ Cap H.length size H' q 0 n [] ∧ Old H.length H H' ∧ H'.length = H.length + 1 := by
  refine ⟨some ⟨H.length, 0, none⟩, H ++ [some ⟨mkCells z n, false, 0⟩], fun R K => ?_, ⟨H.length, mkCells z n, rfl, by unfold unk; omega, Nat.le_refl _, (show hblk _ _ = _ from app_new H _ []), by simp, by simp [mkCells_length, hz]⟩, Old.app _ _, by simp⟩
  unfold hmk
  have h3 : ((n * bytes : Nat) : Int) ≤ 140737488355328 := by omega
  rw [Int.natCast_mul] at h3
  rw [if_pos ⟨by omega, by omega, h3, by omega⟩]
  rfl
end Go.Proofs.Ytjajknghcbpblaa.FW
