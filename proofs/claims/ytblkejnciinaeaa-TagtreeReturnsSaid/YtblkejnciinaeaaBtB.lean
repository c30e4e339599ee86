/- Bitio: appended elements, strings of bytes, what a writer's call leaves alone. -/
import Derived.Test.YtblkejnciinaeaaBtA
set_option linter.unusedVariables false
set_option linter.unusedSimpArgs false
namespace Go.Proofs.Ytblkejnciinaeaa.Sh
open Go.Proofs.Ytblkejnciinaeaa.FW Go.IntWalk
theorem app1 {N bytes : Nat} {H : Heap} {q : Option Addr} {l c : Nat} {cs : List Value} (h : Bld N 1 H q l c cs) (hN : N ≤ H.length) (v : Value) (hl : (l + 1) * bytes ≤ 35184372088832) :
    ∃ H', (∀ (R : Type) (K : Option Addr → Nat → Nat → Heap → Option R), happS 1 bytes (H ++ [some ⟨[v], false, 0⟩]) q l c (some ⟨H.length, 0, none⟩) 1 K = K (some ⟨H.length + 1, 0, none⟩) (l + 1) unk H') ∧ Bld N 1 H' (some ⟨H.length + 1, 0, none⟩) (l + 1) unk (cs ++ [v]) ∧ H'.length = H.length + 2 ∧ ∀ i, i < H.length → (∀ a, q = some a → a.block ≠ i) → hblk H' i = hblk H i := by
  have hp : Shows (H ++ [some (⟨[v], false, 0⟩ : Blk)]) (some ⟨H.length, 0, none⟩) [v] := Sees.shows ⟨_, hblk_new H _, rfl⟩
  have hc := hp.hcells
  have hL : (H ++ [some (⟨[v], false, 0⟩ : Blk)]).length = H.length + 1 := by simp
  rcases h with ⟨rfl, rfl, rfl, rfl⟩ | ⟨b, rfl, rfl, h3, h4, h5⟩
  · refine ⟨H ++ [some ⟨[v], false, 0⟩] ++ [some ⟨[v], false, 1⟩], fun R K => ?_, .inr ⟨H.length + 1, rfl, rfl, by omega, ?_, by simp⟩, by simp, fun i hi _ => by rw [List.append_assoc]; exact app_old hi⟩
    · unfold happS happ
      rw [show 1 * 1 = [v].length from rfl, hc]
      simp only
      rw [if_neg (by unfold unk; omega), if_neg (by omega), if_pos (by simpa using hl), hL]
      rfl
    · have := hblk_new (H ++ [some (⟨[v], false, 0⟩ : Blk)]) (some ⟨[v], false, 1⟩)
      rw [hL] at this
      exact this
  · have hblt := h4.sees.lt
    have h4' : hblk (H ++ [some (⟨[v], false, 0⟩ : Blk)]) b = some ⟨cs, false, 1⟩ := by rw [app_old hblt]; exact h4
    refine ⟨hset (H ++ [some ⟨[v], false, 0⟩]) b none ++ [some ⟨cs ++ [v], false, 1⟩], fun R K => ?_, .inr ⟨H.length + 1, rfl, rfl, by omega, ?_, by rw [Nat.add_mul, h5, List.length_append]; rfl⟩, by simp [hset_length], fun i hi hne => ?_⟩
    · unfold happS happ
      rw [show 1 * 1 = [v].length from rfl, hc]
      simp only [if_true, h4', cond_false, h5, true_and, hL]
      rw [if_pos hl]
    · have := app_new (hset (H ++ [some (⟨[v], false, 0⟩ : Blk)]) b none) (some ⟨cs ++ [v], false, 1⟩) []
      rwa [hset_length, hL] at this
    · rw [app_old (by rw [hset_length]; omega), hset_get, if_neg (by have := hne _ rfl; simp only at this; omega), app_old hi]
theorem nums_byt (l : List Int) : nums (byt l) = some l := by
  induction l with
  | nil => rfl
  | cons x l ih => show (match nums (byt l) with | some xs => some (x :: xs) | none => none) = _; rw [ih]
theorem b2s_eq {H : Heap} {q : Option Addr} {l : List Int} (h : Shows H q (byt l)) (R : Type) (K : ByteArray → Option R) : hb2s H q l.length K = K (strOfNums l) := by
  unfold hb2s
  have := h.hcells
  rw [byt_len] at this
  rw [this]
  simp only [nums_byt]
/-- What a step of a thing at p with a row q leaves alone. -/
structure Stp (p : Nat) (q : Option Addr) (H : Heap) (q' : Option Addr) (H' : Heap) : Prop where
  len : H.length ≤ H'.length
  old : ∀ i, i < H.length → i ≠ p → (∀ a, q = some a → a.block ≠ i) → hblk H' i = hblk H i
  new : q' = q ∨ ∀ a, q' = some a → H.length ≤ a.block
theorem Stp.refl (p : Nat) (q : Option Addr) (H : Heap) : Stp p q H q H := ⟨Nat.le_refl _, fun _ _ _ _ => rfl, .inl rfl⟩
theorem Stp.trans {p : Nat} {q q1 q2 : Option Addr} {H H1 H2 : Heap} (a : Stp p q H q1 H1) (b : Stp p q1 H1 q2 H2) : Stp p q H q2 H2 := by
  refine ⟨Nat.le_trans a.len b.len, fun i hi h1 h2 => (b.old i (Nat.lt_of_lt_of_le hi a.len) h1 fun x hx => ?_).trans (a.old i hi h1 h2), ?_⟩
  · rcases a.new with h | h
    · subst h; exact h2 x hx
    · have := h x hx; omega
  · rcases b.new with h | h
    · subst h; exact a.new
    · exact .inr fun x hx => Nat.le_trans a.len (h x hx)
theorem Stp.of_old {p : Nat} {q : Option Addr} {H H' : Heap} (o : Old H.length H H') : Stp p q H q H' := ⟨o.1, fun i hi _ _ => o.2 i hi, .inl rfl⟩
theorem Stp.of_but {p : Nat} {q : Option Addr} {H H' : Heap} (o : But p H H') : Stp p q H q H' := ⟨o.1, fun i hi h _ => o.2 i hi h, .inl rfl⟩
theorem Stp.below {N p : Nat} {q q' : Option Addr} {H H' : Heap} (s : Stp p q H q' H') (hp : N ≤ p) (hq : ∀ a, q = some a → N ≤ a.block) (hN : N ≤ H.length) : Old N H H' :=
  ⟨s.len, fun i hi => s.old i (by omega) (by omega) fun a ha => by have := hq a ha; omega⟩
/-- Two things apart. -/
def Apt (p : Nat) (q : Option Addr) (p2 : Nat) (q2 : Option Addr) : Prop := p ≠ p2 ∧ (∀ a, q = some a → a.block ≠ p2) ∧ (∀ a, q2 = some a → a.block ≠ p) ∧ ∀ a b, q = some a → q2 = some b → a.block ≠ b.block
theorem Apt.symm {p p2 : Nat} {q q2 : Option Addr} (h : Apt p q p2 q2) : Apt p2 q2 p q := ⟨h.1.symm, h.2.2.1, h.2.1, fun a b ha hb => (h.2.2.2 b a hb ha).symm⟩
theorem Apt.step {p p2 : Nat} {q q2 q' : Option Addr} {H H' : Heap} (h : Apt p q p2 q2) (s : Stp p q H q' H') (h2 : p2 < H.length) (h3 : ∀ a, q2 = some a → a.block < H.length) : Apt p q' p2 q2 := by
  rcases s.new with e | e
  · subst e; exact h
  · exact ⟨h.1, fun a ha => by have := e a ha; omega, h.2.2.1, fun a b ha hb => by have := e a ha; have := h3 b hb; omega⟩
theorem Owns.stp {p : Nat} {q q' : Option Addr} {H H' : Heap} (s : Stp p q H q' H') {b sz : Nat} {cs : List Value} (h : Owns H b cs sz) (h1 : b ≠ p) (h2 : ∀ a, q = some a → a.block ≠ b) : Owns H' b cs sz := by
  have := h.lt
  unfold Owns at *; rw [s.old b this h1 h2]; exact h
theorem Bld.stp {p : Nat} {q q' : Option Addr} {H H' : Heap} (s : Stp p q H q' H') {N sz l c : Nat} {q2 : Option Addr} {cs : List Value} (h : Bld N sz H q2 l c cs) (h1 : ∀ a, q2 = some a → a.block ≠ p) (h2 : ∀ a b, q = some a → q2 = some b → a.block ≠ b.block) : Bld N sz H' q2 l c cs := by
  rcases h with h | ⟨b, rfl, h3, h4, h5, h6⟩
  · exact .inl h
  · exact .inr ⟨b, rfl, h3, h4, Owns.stp s h5 (h1 _ rfl) (fun a ha => h2 a _ ha rfl), h6⟩
/-- The reference's writer: its bits. -/
structure Ur (N : Nat) (H : Heap) (p : Nat) (q : Option Addr) (l : List Int) : Prop where
  c : ∃ c, Owns H p [.bool true, .slice q l.length c] 0 ∧ Bld N 1 H q l.length c (b64 l)
  low : N ≤ p
  apt : ∀ a, q = some a → a.block ≠ p
theorem Ur.lt {N : Nat} {H : Heap} {p : Nat} {q : Option Addr} {l : List Int} (h : Ur N H p q l) : p < H.length := by obtain ⟨c, h1, _⟩ := h.c; exact h1.lt
theorem Ur.qlt {N : Nat} {H : Heap} {p : Nat} {q : Option Addr} {l : List Int} (h : Ur N H p q l) : ∀ a, q = some a → a.block < H.length := by obtain ⟨c, _, h1⟩ := h.c; exact h1.below
theorem Ur.qlow {N : Nat} {H : Heap} {p : Nat} {q : Option Addr} {l : List Int} (h : Ur N H p q l) : ∀ a, q = some a → N ≤ a.block := by
  obtain ⟨c, _, h1⟩ := h.c
  rcases h1 with ⟨rfl, _⟩ | ⟨b, rfl, _, h3, _⟩
  · intro a ha; cases ha
  · intro a ha; cases ha; exact h3
theorem Ur.stp {N : Nat} {H H' : Heap} {p p2 : Nat} {q q' q2 : Option Addr} {l : List Int} (h : Ur N H p2 q2 l) (s : Stp p q H q' H') (a : Apt p q p2 q2) : Ur N H' p2 q2 l := by
  obtain ⟨c, h1, h2⟩ := h.c
  exact ⟨⟨c, Owns.stp s h1 a.1.symm a.2.1, Bld.stp s h2 a.2.2.1 a.2.2.2⟩, h.low, h.apt⟩
/-- One more bit. -/
theorem Ur.add {N : Nat} {H : Heap} {p : Nat} {q : Option Addr} {l : List Int} (h : Ur N H p q l) (hN : N ≤ H.length) (x : Int) (hl : l.length < 1000000) : ∃ c H1 H2, hcell H p 1 = some (.slice q l.length c) ∧
    (∀ (R : Type) (K : Option Addr → Nat → Nat → Heap → Option R), happS 1 8 (H ++ [some ⟨[.int .i64 x], false, 0⟩]) q l.length c (some ⟨H.length, 0, none⟩) 1 K = K (some ⟨H.length + 1, 0, none⟩) (l.length + 1) unk H1) ∧
    (∀ (R : Type) (K : Heap → Option R), hst1 H1 (some ⟨p, 1, none⟩) (.slice (some ⟨H.length + 1, 0, none⟩) (l.length + 1) unk) K = K H2) ∧ Ur N H2 p (some ⟨H.length + 1, 0, none⟩) (l ++ [x]) ∧ Stp p q H (some ⟨H.length + 1, 0, none⟩) H2 := by
  obtain ⟨c, h1, h2⟩ := h.c
  obtain ⟨H1, e1, B1, n1, s1⟩ := app1 (bytes := 8) h2 hN (.int .i64 x) (by omega)
  have hp := h1.lt
  have o1 : Owns H1 p [.bool true, .slice q l.length c] 0 := by unfold Owns at *; rw [s1 p hp h.apt]; exact h1
  obtain ⟨H2, e2, o2, b2, n2⟩ := Owns.st1 (o := 1) o1 (by simp) (.slice (some ⟨H.length + 1, 0, none⟩) (l.length + 1) unk)
  refine ⟨c, H1, H2, by rw [h1.sees.cell]; rfl, e1, e2, ⟨⟨unk, by simpa using o2, ?_⟩, h.low, fun a ha => by cases ha; simp only; omega⟩, ⟨by omega, fun i hi h3 h4 => ?_, .inr fun a ha => by cases ha; simp only; omega⟩⟩
  · rw [b64_app, List.length_append]
    exact Bld.stp (p := p) (q := none) (q' := none) ⟨b2.1, fun i hi h _ => b2.2 i hi h, .inl rfl⟩ B1 (fun a ha => by cases ha; simp only; omega) (fun a b ha => by cases ha)
  · rw [b2.2 i (by omega) h3, s1 i hi h4]
end Go.Proofs.Ytblkejnciinaeaa.Sh
