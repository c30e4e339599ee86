/- Color: lists of planes that are made. -/
import Derived.Test.YtoeoolnkndkefaaClJ2
set_option linter.unusedVariables false
set_option linter.unusedSimpArgs false
namespace Go.Proofs.Ytoeoolnkndkefaa.Sh
open Go.Proofs.Ytoeoolnkndkefaa.FW
/-- A list that is being built of planes whose samples are one's own. -/
structure Outs (N : Nat) (H : Heap) (q : Option Addr) (l c : Nat) (es : List Pr) : Prop where
  bld : Bld N 5 H q l c (cellsOf es)
  own : ∀ e ∈ es, ∃ b sz, e.q = some ⟨b, 0, none⟩ ∧ N ≤ b ∧ Owns H b (ints e.xs) sz
  dis : es.Pairwise fun e f => e.q ≠ f.q
  lst : ∀ e ∈ es, e.q ≠ q
theorem Outs.nil (N : Nat) (H : Heap) : Outs N H none 0 0 [] := ⟨Bld.nil _ _ _, (fun e he => by cases he), .nil, (fun e he => by cases he)⟩
theorem Outs.keep {N : Nat} {H H' : Heap} {q : Option Addr} {l c : Nat} {es : List Pr} (h : Outs N H q l c es) (o : Old H.length H H') : Outs N H' q l c es :=
  ⟨h.bld.old o (Nat.le_refl _), fun e he => by obtain ⟨b, sz, h1, h2, h3⟩ := h.own e he; exact ⟨b, sz, h1, h2, h3.old o h3.lt⟩, h.dis, h.lst⟩
theorem Outs.len {N : Nat} {H : Heap} {q : Option Addr} {l c : Nat} {es : List Pr} (h : Outs N H q l c es) : l = es.length := by
  have := h.bld.shows.2
  rw [cellsOf_len] at this; omega
theorem Outs.pls {N : Nat} {H : Heap} {q : Option Addr} {l c : Nat} {es : List Pr} (h : Outs N H q l c es) : Pls H q es :=
  ⟨h.bld.shows.1, fun e he => by obtain ⟨b, sz, h1, h2, h3⟩ := h.own e he; rw [h1]; exact h3.sees.shows⟩
theorem Outs.cap {N : Nat} {H : Heap} {q : Option Addr} {l c : Nat} {es : List Pr} (h : Outs N H q l c es) (hl : es.length ≤ 9223372036854775807) : CapOk q es.length c := by
  have hll := h.len
  rcases h.bld with ⟨rfl, rfl, rfl, h4⟩ | ⟨b, rfl, rfl, _⟩
  · exact .inl ⟨by omega, by omega⟩
  · exact .inr ⟨rfl, hl, rfl⟩
/-- A copy of a row. -/
theorem copy_eq {H : Heap} {q : Option Addr} {xs : List Int} (hS : Shows (H ++ [some (⟨[], false, 0⟩ : Blk)]) q (ints xs)) (hx : xs.length ≤ 400) :
    ∃ b c sz H', (∀ (R : Type) (K : Option Addr → Nat → Nat → Heap → Option R), hapnS 1 8 (H ++ [some ⟨[], false, 0⟩]) (some ⟨H.length, 0, none⟩) 0 0 q xs.length K = K (some ⟨b, 0, none⟩) xs.length c H') ∧ H.length ≤ b ∧ Owns H' b (ints xs) sz ∧ Old H.length H H' := by
  have hc := hS.hcells
  rw [ints_len] at hc
  by_cases h0 : xs.length = 0
  · have : xs = [] := List.length_eq_zero_iff.1 h0
    subst this
    refine ⟨H.length, 0, 0, _, fun R K => ?_, Nat.le_refl _, hblk_new H _, Old.app _ _⟩
    unfold hapnS hapn
    rw [Nat.mul_one, hc]
    simp [unk, ints]
  · refine ⟨H.length + 1, unk, 1, H ++ [some ⟨[], false, 0⟩] ++ [some ⟨ints xs, false, 1⟩], fun R K => ?_, by omega, ?_, ⟨by simp, fun i hi => ?_⟩⟩
    · unfold hapnS hapn
      rw [Nat.mul_one, hc]
      simp only
      rw [if_neg (by unfold unk; omega), if_neg h0, if_neg (by omega), if_pos (by omega)]
      have : FW.hcells (H ++ [some (⟨[], false, 0⟩ : Blk)]) (some ⟨H.length, 0, none⟩) (0 * 1) = some [] := rfl
      rw [this]
      simp
    · have := hblk_new (H ++ [some (⟨[], false, 0⟩ : Blk)]) (some ⟨ints xs, false, 1⟩)
      rw [show (H ++ [some (⟨[], false, 0⟩ : Blk)]).length = H.length + 1 from by simp] at this
      exact this
    · rw [List.append_assoc]; exact app_old hi
theorem app5 {N : Nat} {H : Heap} {q : Option Addr} {l c : Nat} {cs vs : List Value} (h : Bld N 5 H q l c cs) (hN : N ≤ H.length) (hv : vs.length = 5) (hl : l ≤ 6) :
    ∃ H', (∀ (R : Type) (K : Option Addr → Nat → Nat → Heap → Option R), happS 5 56 (H ++ [some ⟨vs, false, 0⟩]) q l c (some ⟨H.length, 0, none⟩) 1 K = K (some ⟨H.length + 1, 0, none⟩) (l + 1) unk H') ∧ Bld N 5 H' (some ⟨H.length + 1, 0, none⟩) (l + 1) unk (cs ++ vs) ∧ H'.length = H.length + 2 ∧ ∀ i, i < H.length → (∀ a, q = some a → a.block ≠ i) → hblk H' i = hblk H i := by
  have hp : Shows (H ++ [some (⟨vs, false, 0⟩ : Blk)]) (some ⟨H.length, 0, none⟩) vs := Sees.shows ⟨_, hblk_new H _, rfl⟩
  have hc := hp.hcells
  rw [hv] at hc
  have hL : (H ++ [some (⟨vs, false, 0⟩ : Blk)]).length = H.length + 1 := by simp
  rcases h with ⟨rfl, rfl, rfl, rfl⟩ | ⟨b, rfl, rfl, h3, h4, h5⟩
  · refine ⟨H ++ [some ⟨vs, false, 0⟩] ++ [some ⟨vs, false, 5⟩], fun R K => ?_, .inr ⟨H.length + 1, rfl, rfl, by omega, ?_, by simp [hv]⟩, by simp, fun i hi _ => by rw [List.append_assoc]; exact app_old hi⟩
    · unfold happS happ
      rw [show 1 * 5 = 5 from rfl, hc]
      simp only
      rw [if_neg (by unfold unk; omega), if_neg (by omega), if_pos (by omega), hL]
      rfl
    · have := hblk_new (H ++ [some (⟨vs, false, 0⟩ : Blk)]) (some ⟨vs, false, 5⟩)
      rw [hL] at this
      exact this
  · have hblt := h4.sees.lt
    have h4' : hblk (H ++ [some (⟨vs, false, 0⟩ : Blk)]) b = some ⟨cs, false, 5⟩ := by rw [app_old hblt]; exact h4
    refine ⟨hset (H ++ [some ⟨vs, false, 0⟩]) b none ++ [some ⟨cs ++ vs, false, 5⟩], fun R K => ?_, .inr ⟨H.length + 1, rfl, rfl, by omega, ?_, by rw [Nat.add_mul, h5, List.length_append, hv]⟩, by simp [hset_length], fun i hi hne => ?_⟩
    · unfold happS happ
      rw [show 1 * 5 = 5 from rfl, hc]
      simp only [if_true, h4', cond_false, h5, true_and, hL]
      rw [if_pos (by omega)]
    · have := app_new (hset (H ++ [some (⟨vs, false, 0⟩ : Blk)]) b none) (some ⟨cs ++ vs, false, 5⟩) []
      rwa [hset_length, hL] at this
    · rw [app_old (by rw [hset_length]; omega), hset_get, if_neg (by have := hne _ rfl; simp only at this; omega), app_old hi]
/-- One more plane. -/
theorem Outs.add {N : Nat} {H : Heap} {q : Option Addr} {l c : Nat} {es : List Pr} (h : Outs N H q l c es) (hN : N ≤ H.length) (hl : l ≤ 6) (x0 y0 x1 y1 : Int) (xs : List Int) (cd : Nat) {b sz : Nat} (hb : Owns H b (ints xs) sz) (hbN : N ≤ b) (hq : some ⟨b, 0, none⟩ ≠ q) (hes : ∀ e ∈ es, e.q ≠ some ⟨b, 0, none⟩) :
    ∃ q' H', (∀ (R : Type) (K : Option Addr → Nat → Nat → Heap → Option R), happS 5 56 (H ++ [some ⟨[.int .i64 x0, .int .i64 y0, .int .i64 x1, .int .i64 y1, .slice (some ⟨b, 0, none⟩) xs.length cd], false, 0⟩]) q l c (some ⟨H.length, 0, none⟩) 1 K = K q' (l + 1) unk H') ∧ Outs N H' q' (l + 1) unk (es ++ [⟨x0, y0, x1, y1, xs, some ⟨b, 0, none⟩, cd⟩]) ∧ Old N H H' ∧ N ≤ H'.length := by
  obtain ⟨H', e, B, n, s⟩ := app5 h.bld hN (vs := [.int .i64 x0, .int .i64 y0, .int .i64 x1, .int .i64 y1, .slice (some ⟨b, 0, none⟩) xs.length cd]) rfl hl
  have hlow : ∀ i, i < N → hblk H' i = hblk H i := fun i hi => s i (by omega) fun a ha => by
    rcases h.bld with ⟨rfl, _⟩ | ⟨b2, rfl, _, h2, _⟩
    · cases ha
    · cases ha; simp only; omega
  have hkeep : ∀ b2 cs sz2, Owns H b2 cs sz2 → some ⟨b2, 0, none⟩ ≠ q → Owns H' b2 cs sz2 := fun b2 cs sz2 ho hne => by
    have := ho.lt
    unfold Owns at *
    rw [s b2 this fun a ha => by
      rcases h.bld with ⟨rfl, _⟩ | ⟨b3, rfl, _⟩
      · cases ha
      · cases ha; intro hh; simp only at hh; subst hh; exact hne rfl]
    exact ho
  refine ⟨_, H', e, ⟨?_, fun f hf => ?_, ?_, fun f hf => ?_⟩, ⟨by omega, hlow⟩, by omega⟩
  · rw [cellsOf_append]; exact B
  · rcases List.mem_append.1 hf with hf | hf
    · obtain ⟨b2, sz2, h1, h2, h3⟩ := h.own f hf
      exact ⟨b2, sz2, h1, h2, hkeep b2 _ _ h3 (by rw [← h1]; exact h.lst f hf)⟩
    · simp only [List.mem_singleton] at hf; subst hf
      exact ⟨b, sz, rfl, hbN, hkeep b _ _ hb hq⟩
  · rw [List.pairwise_append]
    refine ⟨h.dis, List.pairwise_singleton _ _, fun f hf g hg => ?_⟩
    simp only [List.mem_singleton] at hg; subst hg
    exact hes f hf
  · rcases List.mem_append.1 hf with hf | hf
    · obtain ⟨b2, sz2, h1, h2, h3⟩ := h.own f hf
      rw [h1]; intro hh; cases hh; have := h3.lt; omega
    · simp only [List.mem_singleton] at hf; subst hf
      intro hh; cases hh; have := hb.lt; omega
/-- A copy of a plane behind such a list. -/
theorem Outs.copy {N : Nat} {H : Heap} {q : Option Addr} {l c : Nat} {es : List Pr} (h : Outs N H q l c es) (hN : N ≤ H.length) (hl : l ≤ 6) (e : Pr) (hS : Shows (H ++ [some (⟨[], false, 0⟩ : Blk)]) e.q (ints e.xs)) (hx : e.xs.length ≤ 400) :
    ∃ q1 c1 H1 q' H' f, (∀ (R : Type) (K : Option Addr → Nat → Nat → Heap → Option R), hapnS 1 8 (H ++ [some ⟨[], false, 0⟩]) (some ⟨H.length, 0, none⟩) 0 0 e.q e.xs.length K = K q1 e.xs.length c1 H1) ∧ (∀ (R : Type) (K : Option Addr → Nat → Nat → Heap → Option R), happS 5 56 (H1 ++ [some ⟨[.int .i64 e.x0, .int .i64 e.y0, .int .i64 e.x1, .int .i64 e.y1, .slice q1 e.xs.length c1], false, 0⟩]) q l c (some ⟨H1.length, 0, none⟩) 1 K = K q' (l + 1) unk H') ∧
      Outs N H' q' (l + 1) unk (es ++ [f]) ∧ f.pl = e.pl ∧ Old N H H' ∧ N ≤ H'.length := by
  obtain ⟨b, c1, sz, H1, e1, g1, g2, o1⟩ := copy_eq hS hx
  have h1 := h.keep o1
  obtain ⟨q', H', e2, O2, o2, n2⟩ := h1.add (Nat.le_trans hN o1.1) hl e.x0 e.y0 e.x1 e.y1 e.xs c1 g2 (by omega) (by
    rcases h.bld with ⟨rfl, _⟩ | ⟨b3, rfl, _, _, h4, _⟩
    · intro hh; cases hh
    · intro hh; cases hh; have := h4.lt; omega) (fun f hf => by
    obtain ⟨b2, sz2, k1, k2, k3⟩ := h.own f hf
    rw [k1]; intro hh; cases hh; have := k3.lt; omega)
  exact ⟨_, c1, H1, q', H', _, e1, e2, O2, rfl, (o1.mono hN).trans o2, n2⟩
end Go.Proofs.Ytoeoolnkndkefaa.Sh
