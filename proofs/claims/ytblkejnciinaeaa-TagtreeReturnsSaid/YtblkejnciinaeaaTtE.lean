/- Tagtree: the walk, what it comes to; devices that give bits. -/
import Derived.Test.YtblkejnciinaeaaTtD
set_option linter.unusedVariables false
set_option linter.unusedSimpArgs false
namespace Go.Proofs.Ytblkejnciinaeaa.FW
theorem Owns.same {H H' : Heap} {b sz : Nat} {cs : List Value} (h : Owns H b cs sz) (e : hblk H' b = hblk H b) : Owns H' b cs sz := by
  unfold Owns at *; rw [e]; exact h
theorem Bld.same {N sz l c : Nat} {H H' : Heap} {q : Option Addr} {cs : List Value} (h : Bld N sz H q l c cs) (e : ∀ a, q = some a → hblk H' a.block = hblk H a.block) : Bld N sz H' q l c cs := by
  rcases h with h | ⟨b, rfl, h2, h3, h4, h5⟩
  · exact .inl h
  · exact .inr ⟨b, rfl, h2, h3, h4.same (e _ rfl), h5⟩
end Go.Proofs.Ytblkejnciinaeaa.FW
namespace Go.Proofs.Ytblkejnciinaeaa.Sh
open Go.Proofs.Ytblkejnciinaeaa.FW Go.IntWalk
/-- A device: the bit for a node, the error, what the device is then. -/
abbrev Cod (S : Type) := S → Nd → (Int × Int) × S
def nlp {S : Type} (code : Cod S) : Nat → S → Nd → Int × S × Nd
  | 0, s, n => (0, s, n)
  | m + 1, s, n => if n.2.2 = true then (0, s, n)
    else if (code s n).1.2 ≠ 0 then ((code s n).1.2, (code s n).2, n)
    else if (code s n).1.1 = 1 then (0, (code s n).2, n.1, n.2.1, true)
    else nlp code m (code s n).2 (n.1, n.2.1 + 1, n.2.2)
def nl {S : Type} (code : Cod S) (t : Int) (s : S) (n : Nd) : Int × S × Nd := nlp code (t - n.2.1).toNat s n
def wk {S : Type} (code : Cod S) (t : Int) (f : Nat → Nd) : Nat → Int → S → (Nat → Nd) → Int × S × (Nat → Nd)
  | 0, _, s, pf => (0, s, pf)
  | i + 1, low, s, pf => if (nl code t s ((f i).1, imx (f i).2.1 low, (f i).2.2)).1 ≠ 0 then ((nl code t s ((f i).1, imx (f i).2.1 low, (f i).2.2)).1, (nl code t s ((f i).1, imx (f i).2.1 low, (f i).2.2)).2.1, pf)
    else wk code t f i (nl code t s ((f i).1, imx (f i).2.1 low, (f i).2.2)).2.2.2.1 (nl code t s ((f i).1, imx (f i).2.1 low, (f i).2.2)).2.1 (upd pf i (nl code t s ((f i).1, imx (f i).2.1 low, (f i).2.2)).2.2)
/-- A walk down a tree of L levels to a leaf. -/
def wkr {S : Type} (code : Cod S) (t : Int) (g : Nat → Nat → Nd) (a x y L : Nat) (s : S) : Int × S × (Nat → Nd) := wk code t (fun i => g i (ix a x y i)) L 0 s (fun _ => nz)
structure Dev (S : Type) where
  p : Nat
  inv : S → Option Addr → Heap → Prop
  room : S → Nat → Prop
/-- What a step of a device at p with a row q, and with a block b, leaves alone. -/
structure Fr (p b : Nat) (q : Option Addr) (H : Heap) (q' : Option Addr) (H' : Heap) : Prop where
  len : H.length ≤ H'.length
  old : ∀ i, i < H.length → i ≠ p → i ≠ b → (∀ a, q = some a → a.block ≠ i) → hblk H' i = hblk H i
  new : q' = q ∨ ∀ a, q' = some a → H.length ≤ a.block
theorem Fr.refl (p b : Nat) (q : Option Addr) (H : Heap) : Fr p b q H q H := ⟨Nat.le_refl _, fun _ _ _ _ _ => rfl, .inl rfl⟩
theorem Fr.trans {p b : Nat} {q q1 q2 : Option Addr} {H H1 H2 : Heap} (x : Fr p b q H q1 H1) (y : Fr p b q1 H1 q2 H2) : Fr p b q H q2 H2 := by
  refine ⟨Nat.le_trans x.len y.len, fun i hi h1 h2 h3 => (y.old i (Nat.lt_of_lt_of_le hi x.len) h1 h2 fun a ha => ?_).trans (x.old i hi h1 h2 h3), ?_⟩
  · rcases x.new with h | h
    · subst h; exact h3 a ha
    · have := h a ha; omega
  · rcases y.new with h | h
    · subst h; exact x.new
    · exact .inr fun a ha => Nat.le_trans x.len (h a ha)
theorem Fr.of_stp {p b : Nat} {q q' : Option Addr} {H H' : Heap} (s : Stp p q H q' H') : Fr p b q H q' H' := ⟨s.len, fun i hi h1 _ h3 => s.old i hi h1 h3, s.new⟩
theorem Fr.of_but {p b : Nat} {q : Option Addr} {H H' : Heap} (s : But b H H') : Fr p b q H q H' := ⟨s.1, fun i hi _ h2 _ => s.2 i hi h2, .inl rfl⟩
theorem Fr.of_old {p b : Nat} {q : Option Addr} {H H' : Heap} (s : Old H.length H H') : Fr p b q H q H' := ⟨s.1, fun i hi _ _ _ => s.2 i hi, .inl rfl⟩
/-- The block of a new thing is forgotten. -/
theorem Fr.drop {p b b2 : Nat} {q q' : Option Addr} {H Hn H' : Heap} (o : Old H.length H Hn) (hb : H.length ≤ b) (s : Fr p b q Hn q' H') : Fr p b2 q H q' H' := by
  refine ⟨Nat.le_trans o.1 s.len, fun i hi h1 _ h3 => (s.old i (Nat.lt_of_lt_of_le hi o.1) h1 (by omega) h3).trans (o.2 i hi), ?_⟩
  rcases s.new with h | h
  · exact .inl h
  · exact .inr fun a ha => Nat.le_trans o.1 (h a ha)
structure DevOk {S : Type} (D : Dev S) (code : Cod S) (E1 : (R : Type) → Int → Int → Bool → Option Addr → Heap → (Int → Int → Heap → Option R) → Option R) : Prop where
  lt : ∀ {s q H}, D.inv s q H → D.p < H.length
  qlt : ∀ {s q H}, D.inv s q H → ∀ a, q = some a → a.block < H.length
  same : ∀ {s q H H'}, D.inv s q H → H.length ≤ H'.length → hblk H' D.p = hblk H D.p → (∀ a, q = some a → hblk H' a.block = hblk H a.block) → D.inv s q H'
  mono : ∀ {s m m'}, D.room s m → m' ≤ m → D.room s m'
  run : ∀ {s q H m pb}, D.inv s q H → D.room s (m + 1) → Owns H pb [.pointer (some ⟨D.p, 0, none⟩)] 0 → ∀ (n : Nd), ∃ q' H', (∀ (R : Type) (K : Int → Int → Heap → Option R), E1 R n.1 n.2.1 n.2.2 (some ⟨pb, 0, none⟩) H K = K (code s n).1.1 (code s n).1.2 H') ∧ D.inv (code s n).2 q' H' ∧ D.room (code s n).2 m ∧ Stp D.p q H q' H'
/-- A block off a tree. -/
def Off (p : Nat) (q : Option Addr) (l : List Lv) (i : Nat) : Prop := i ≠ p ∧ (∀ a, q = some a → a.block ≠ i) ∧ ∀ (j : Nat) (v : Lv), l[j]? = some v → v.b ≠ i
theorem Tn.same {N : Nat} {H H' : Heap} {p : Nat} {q : Option Addr} {c : Nat} {l : List Lv} {e d : Bool} {g : Nat → Nat → Nd} (T : Tn N H p q c l e d g) (s : ∀ i, i < H.length → ¬ Off p q l i → hblk H' i = hblk H i) : Tn N H' p q c l e d g := by
  refine ⟨T.o.same (s _ T.o.lt fun h => h.1 rfl), T.b.same fun a ha => s _ (T.b.below a ha) fun h => h.2.1 a ha rfl, T.low, T.ap, fun i v hv => ?_, T.d⟩
  obtain ⟨g1, g2, g3, g4⟩ := T.n i v hv
  exact ⟨g1.same (s _ g1.lt fun h => h.2.2 i v hv rfl), g2, g3, g4⟩
theorem Tn.fresh {N : Nat} {H : Heap} {p : Nat} {q : Option Addr} {c : Nat} {l : List Lv} {e d : Bool} {g : Nat → Nat → Nd} (T : Tn N H p q c l e d g) {i : Nat} (hi : H.length ≤ i) : Off p q l i :=
  ⟨by have := T.o.lt; omega, fun a ha => by have := T.b.below a ha; omega, fun j v hv => by have := (T.n j v hv).1.lt; omega⟩
theorem Tn.fr {N : Nat} {H H' : Heap} {p : Nat} {q : Option Addr} {c : Nat} {l : List Lv} {e d : Bool} {g : Nat → Nat → Nd} (T : Tn N H p q c l e d g) {p2 b : Nat} {q2 q2' : Option Addr} (s : Fr p2 b q2 H q2' H') (h1 : Off p q l p2) (h2 : ∀ a, q2 = some a → Off p q l a.block) (h3 : Off p q l b) : Tn N H' p q c l e d g :=
  T.same fun i hi hn => s.old i hi (fun h => hn (h ▸ h1)) (fun h => hn (h ▸ h3)) fun a ha h => hn (h ▸ h2 a ha)
/-- The tree after a walk. -/
def gw (a x y : Nat) (g : Nat → Nat → Nd) (pf : Nat → Nd) (n : Nat) : Nat → Nat → Nd := fun i => if i < n then upd (g i) (ix a x y i) (pf i) else g i
theorem gw_zero (a x y : Nat) (g : Nat → Nat → Nd) (pf : Nat → Nd) : gw a x y g pf 0 = g := by funext i; unfold gw; rw [if_neg (by omega)]
theorem gw_succ (a x y : Nat) (g : Nat → Nat → Nd) (pf : Nat → Nd) (n : Nat) : upd2 (gw a x y g pf n) n (ix a x y n) (pf n) = gw a x y g pf (n + 1) := by
  funext i
  by_cases h : i = n
  · subst h; rw [upd2_at]; unfold gw; rw [if_neg (by omega), if_pos (by omega)]
  · rw [upd2_ne _ _ _ h]; unfold gw
    by_cases h2 : i < n
    · rw [if_pos h2, if_pos (by omega)]
    · rw [if_neg h2, if_neg (by omega)]
theorem roH_len (H : Heap) : (roH H).length = H.length := by simp [roH]
theorem roH_tail (H : Heap) : H ++ (roH H).drop H.length = H := by rw [List.drop_eq_nil_of_le (by rw [roH_len]; omega), List.append_nil]
end Go.Proofs.Ytblkejnciinaeaa.Sh
