/- A region whose order is drawn comes to what it comes to in the text's order. -/
import Derived.Test.YtjajknghcbpblaaFwC
set_option linter.unusedVariables false
set_option linter.unusedSimpArgs false
namespace Go.Proofs.Ytjajknghcbpblaa.FW
variable {P : Program} {R : Type}
def cut (ρ : Ren) (m : Nat) : Ren := fun b => if b < m then ρ b else none
def cutH (hp : Nat → Option Blk) (m : Nat) : Nat → Option Blk := fun b => if b < m then hp b else none
theorem cut_le (ρ : Ren) (m : Nat) : Le (cut ρ m) ρ := by
  intro b x h; unfold cut at h; split at h
  · exact h
  · cases h
theorem cut_mono {ρ ρ' : Ren} (h : Le ρ ρ') {m m' : Nat} (hm : m ≤ m') : Le (cut ρ m) (cut ρ' m') := by
  intro b x hb; unfold cut at hb ⊢; split at hb
  · rw [if_pos (by omega)]; exact h b x hb
  · cases hb
theorem cut_dom (ρ : Ren) (m : Nat) : Dom (cut ρ m) m := by
  intro b hb; unfold cut; rw [if_neg (by omega)]
theorem cut_all {ρ : Ren} {m : Nat} (h : Dom ρ m) : cut ρ m = ρ := by
  funext b; unfold cut; split
  · rfl
  · rename_i hb; exact (h b (by omega)).symm
/-- The parts below a level, behind a step that leaves their abstract blocks alone. -/
theorem Rel.behind {ρi ρr ρ' : Ren} {hi hr h' : Nat → Option Blk} {w w' : World} (hR : Rel ρi hi w) (hle : Le ρi ρr) (g : Goes ρr hr w ρ' h' w') (hs : ∀ b B, hi b = some B → h' b = some B) : Rel ρi hi w' := by
  refine ⟨fun b B hb => ?_, hR.inj⟩
  obtain ⟨b', d, m, arr, el, fr, e1, e2, e3, e4, e5⟩ := hR.blk b B hb
  obtain ⟨b2, d2, m2, arr2, el2, fr2, k1, k2, k3, k4, k5⟩ := g.rel.blk b B (hs b B hb)
  have hle2 := hle.trans g.le
  have := hle2 b _ e1
  rw [k1] at this; cases this
  refine ⟨_, _, _, arr2, el2, fr2, e1, k2, fun i v hv => ?_, k4, k5⟩
  obtain ⟨x, g1, g2⟩ := e3 i v hv
  obtain ⟨y, g3, g4⟩ := k3 i v hv
  exact ⟨y, g3, g2.back hle2 y g4⟩
/-- A step that was taken in a part of the heap, seen in the whole. -/
theorem Goes.merge {ρ ρr ρ' : Ren} {hp hr : Nat → Option Blk} {w w' : World} {n : Nat} {nb : Heap} (hR : Rel ρ hp w) (hle : Le ρr ρ) (hsub : ∀ b B, hr b = some B → hp b = some B) (hrn : ∀ b, n ≤ b → hr b = none)
    (g : Goes ρr hr w ρ' (hpu hr n nb) w') (hg : ∀ b, ρ' b ≠ none → ρr b ≠ none ∨ (n ≤ b ∧ b < n + nb.length)) (hfree : ∀ b, n ≤ b → b < n + nb.length → ρ b = none) (hrr : ∀ b B, hr b = some B → ρr b ≠ none) :
    Goes ρ hp w (fun b => if n ≤ b ∧ b < n + nb.length then ρ' b else ρ b) (hpu hp n nb) w' := by
  have hle1 : Le ρ (fun b => if n ≤ b ∧ b < n + nb.length then ρ' b else ρ b) := by
    intro b x hb
    show (if _ then _ else _) = _
    split
    · rename_i h; rw [hfree b h.1 h.2] at hb; cases hb
    · exact hb
  have hle2 : Le ρ' (fun b => if n ≤ b ∧ b < n + nb.length then ρ' b else ρ b) := by
    intro b x hb
    show (if _ then _ else _) = _
    split
    · exact hb
    · rename_i h
      rcases hg b (by rw [hb]; simp) with h1 | h1
      · cases hq : ρr b with
        | none => exact (h1 hq).elim
        | some y =>
          have := g.le b y hq
          rw [hb] at this; cases this
          exact hle b _ hq
      · exact (h h1).elim
  have hold : ∀ b B, hp b = some B → ¬ (n ≤ b ∧ b < n + nb.length) := by
    intro b B hb hh
    obtain ⟨b', d, m, _, _, _, e1, _⟩ := hR.blk b B hb
    rw [hfree b hh.1 hh.2] at e1; cases e1
  have hlt : ∀ b B x d, hp b = some B → At ρ b x d → x < w.heap.size := by
    intro b B x d hb ⟨m, hx⟩
    obtain ⟨b', d', m', arr, el, fr, e1, e2, _⟩ := hR.blk b B hb
    rw [hx] at e1; cases e1
    exact (Array.getElem?_eq_some_iff.1 e2).1
  have hbackr : ∀ b B x d, hr b = some B → At ρ' b x d → At ρr b x d := by
    intro b B x d hb ⟨m, hx⟩
    cases hq : ρr b with
    | none => exact (hrr b B hb hq).elim
    | some y => have := g.le b y hq; rw [hx] at this; cases this; exact ⟨m, hq⟩
  have hsame : ∀ b B, hp b = some B → hr b ≠ some B → ∀ x d, At ρ b x d → w'.heap[x]? = w.heap[x]? := by
    intro b B hb hne x d hx
    refine g.kept.block x (hlt b B x d hb hx) fun b2 B2 d2 hb2 hro hx2 => ?_
    have hne2 : b2 ≠ b := by
      rintro rfl
      have := hsub _ _ hb2
      rw [hb] at this; cases this
      exact hne hb2
    exact hR.inj b2 B2 b B x d2 x d (hsub _ _ hb2) hb hne2 hro (hx2.mono hle) hx rfl
  have hat : ∀ b x d, ¬ (n ≤ b ∧ b < n + nb.length) → At (fun b => if n ≤ b ∧ b < n + nb.length then ρ' b else ρ b) b x d → At ρ b x d := by
    rintro b x d hn ⟨m, h⟩
    simp only [if_neg hn] at h
    exact ⟨m, h⟩
  have hat2 : ∀ b x d, (n ≤ b ∧ b < n + nb.length) → At (fun b => if n ≤ b ∧ b < n + nb.length then ρ' b else ρ b) b x d → At ρ' b x d := by
    rintro b x d hn ⟨m, h⟩
    simp only [if_pos hn] at h
    exact ⟨m, h⟩
  have hupd : ∀ b B, n ≤ b ∧ b < n + nb.length → hpu hp n nb b = some B → hpu hr n nb b = some B := by
    intro b B hn h
    unfold hpu at h ⊢
    rw [if_pos hn] at h ⊢
    exact h
  have hnewge : ∀ b B x d, n ≤ b ∧ b < n + nb.length → hpu hr n nb b = some B → At ρ' b x d → w.heap.size ≤ x := by
    intro b B x d hn hb hx
    rcases g.ancs b B x d hb hx with h | ⟨B0, h1, _⟩ | ⟨b0, B0, d0, h1, h2, h3⟩
    · exact h
    · rw [hrn b hn.1] at h1; cases h1
    · have hb0 : ¬ (n ≤ b0 ∧ b0 < n + nb.length) := fun hh => by rw [hrn b0 hh.1] at h1; cases h1
      have h1' : hpu hr n nb b0 = some B0 := by unfold hpu; rw [if_neg hb0]; exact h1
      exact (g.rel.inj b0 B0 b B x d0 x d h1' hb (fun e => hb0 (e ▸ hn)) h2 (h3.mono g.le) hx rfl).elim
  refine ⟨hle1, ⟨fun b B hb => ?_, fun b1 B1 b2 B2 x1 d1 x2 d2 k1 k2 hne hro e1 e2 => ?_⟩, ⟨g.kept.os, g.kept.tape, g.kept.output, g.kept.size, fun c hc hno => ?_⟩, fun b B x d hb hx => ?_⟩
  · by_cases hn : n ≤ b ∧ b < n + nb.length
    · obtain ⟨b', d, m, arr, el, fr, e1, e2, e3, e4⟩ := g.rel.blk b B (hupd b B hn hb)
      exact ⟨b', d, m, arr, el, fr, hle2 _ _ e1, e2, fun i v hv => (by obtain ⟨y, g1, g2⟩ := e3 i v hv; exact ⟨y, g1, g2.mono hle2⟩), e4⟩
    · have hb' : hp b = some B := by unfold hpu at hb; rwa [if_neg hn] at hb
      by_cases hin : hr b = some B
      · have : hpu hr n nb b = some B := by unfold hpu; rw [if_neg hn]; exact hin
        obtain ⟨b', d, m, arr, el, fr, e1, e2, e3, e4⟩ := g.rel.blk b B this
        exact ⟨b', d, m, arr, el, fr, hle2 _ _ e1, e2, fun i v hv => (by obtain ⟨y, g1, g2⟩ := e3 i v hv; exact ⟨y, g1, g2.mono hle2⟩), e4⟩
      · obtain ⟨b', d, m, arr, el, fr, e1, e2, e3, e4⟩ := hR.blk b B hb'
        exact ⟨b', d, m, arr, el, fr, hle1 _ _ e1, by rw [hsame b B hb' hin b' d ⟨m, e1⟩]; exact e2, fun i v hv => (by obtain ⟨y, g1, g2⟩ := e3 i v hv; exact ⟨y, g1, g2.mono hle1⟩), e4⟩
  · by_cases hn1 : n ≤ b1 ∧ b1 < n + nb.length
    · have q1 := hnewge b1 B1 x1 d1 hn1 (hupd b1 B1 hn1 k1) (hat2 _ _ _ hn1 e1)
      by_cases hn2 : n ≤ b2 ∧ b2 < n + nb.length
      · exact g.rel.inj b1 B1 b2 B2 x1 d1 x2 d2 (hupd b1 B1 hn1 k1) (hupd b2 B2 hn2 k2) hne hro (hat2 _ _ _ hn1 e1) (hat2 _ _ _ hn2 e2)
      · have k2' : hp b2 = some B2 := by unfold hpu at k2; rwa [if_neg hn2] at k2
        have := hlt b2 B2 x2 d2 k2' (hat _ _ _ hn2 e2)
        omega
    · have k1' : hp b1 = some B1 := by unfold hpu at k1; rwa [if_neg hn1] at k1
      have q1 := hlt b1 B1 x1 d1 k1' (hat _ _ _ hn1 e1)
      by_cases hn2 : n ≤ b2 ∧ b2 < n + nb.length
      · have := hnewge b2 B2 x2 d2 hn2 (hupd b2 B2 hn2 k2) (hat2 _ _ _ hn2 e2)
        omega
      · have k2' : hp b2 = some B2 := by unfold hpu at k2; rwa [if_neg hn2] at k2
        exact hR.inj b1 B1 b2 B2 x1 d1 x2 d2 k1' k2' hne hro (hat _ _ _ hn1 e1) (hat _ _ _ hn2 e2)
  · refine g.kept.block c hc fun b B d hb hro hx => hno b B d (hsub b B hb) hro (hx.mono hle)
  · by_cases hn : n ≤ b ∧ b < n + nb.length
    · exact .inl (hnewge b B x d hn (hupd b B hn hb) (hat2 b x d hn hx))
    · have hb' : hp b = some B := by unfold hpu at hb; rwa [if_neg hn] at hb
      exact .inr (.inl ⟨B, hb', hat b x d hn hx, id⟩)
variable {C : Tab R} {an : Ann} {nt : Nat}
/-- A heap's read-only blocks alone. -/
def roOnly (H : Heap) : Heap := H.map fun | some B => bif B.ro then some B else none | none => none
theorem roOnly_blk (H : Heap) (b : Nat) : hblk (roOnly H) b = match hblk H b with | some B => bif B.ro then some B else none | none => none := by
  induction H generalizing b with
  | nil => rfl
  | cons x H ih => cases b with
    | zero => cases x <;> rfl
    | succ b => exact ih b
theorem roOnly_some {H : Heap} {b : Nat} {B : Blk} (h : hblk (roOnly H) b = some B) : hblk H b = some B ∧ B.ro = true := by
  rw [roOnly_blk] at h
  cases hq : hblk H b with
  | none => rw [hq] at h; cases h
  | some C =>
    rw [hq] at h
    simp only at h
    cases hr : C.ro with
    | false => rw [hr] at h; cases h
    | true => rw [hr, cond_true] at h; cases h; exact ⟨rfl, hr⟩
theorem roOnly_len (H : Heap) : (roOnly H).length = H.length := by simp [roOnly]
theorem isRo_blk {H : Heap} {b o : Nat} {sp : Option _} (h : isRo H (some ⟨b, o, sp⟩) = true) : hblk (roOnly H) b = hblk H b := by
  rw [roOnly_blk]
  simp only [isRo] at h
  cases hq : hblk H b with
  | none => rfl
  | some B => rw [hq] at h; simp only at h ⊢; rw [h]; rfl
theorem hcell_ro {H : Heap} {b o : Nat} {sp : Option _} (h : isRo H (some ⟨b, o, sp⟩) = true) (i : Nat) : hcell (roOnly H) b i = hcell H b i := by
  unfold hcell; rw [isRo_blk h]
theorem ldS_ro {H : Heap} {a : Option Addr} (h : isRo H a = true) (s : SK) (K : Value → Option R) : ldS s (roOnly H) a K = ldS s H a K := by
  cases a with
  | none => cases s <;> rfl
  | some a =>
    obtain ⟨b, o, sp⟩ := a
    have := hcell_ro h
    cases s <;> simp only [ldS, ldI, ldB, ldP, ldL, ldT, ldV, this]
theorem isRo_pad {H : Heap} {a : Option Addr} (h : isRo H a = true) (i : Nat) : isRo H (pad a i) = true := by
  cases a with
  | none => exact h
  | some a => exact h
theorem ldN_ro {H : Heap} {a : Option Addr} (h : isRo H a = true) : ∀ (ks : List SK) (i : Nat) (K : List Value → Option R), ldN ks (roOnly H) a i K = ldN ks H a i K := by
  intro ks
  induction ks with
  | nil => intro i K; rfl
  | cons s ks ih =>
    intro i K
    simp only [ldN]
    rw [ldS_ro (isRo_pad h i)]
    congr 1
    funext v
    exact ih _ _
/-- What is known of a step of the text's order: the operation's effect by its class. 'L': what the frame held, 'v': what it gave, 'G0': the region's first heap, 'G', 'G'': the heap before and behind. -/
def Eff (P : Program) (o : Oper) (io : IOp) (L : Nat → Value) (G0 G : Heap) (made : List (Nat × Nat × Nat)) (v : Value) (G' : Heap) : Prop :=
  G.length ≤ G'.length ∧
  (isBar io = true → ∀ (e : Env) (ρ : Ren) (w : World) (a : Act) (Q : Exit → Act → World → Prop), (∀ t, eget e t = L t) → Rel ρ (hblk G) w → Dom ρ G.length → Reads ρ e a o → o.wp P a w (SP o a ρ G w v G') Q) ∧
  (isBar io = false → isMem io = true → ∃ nb, G' = G ++ nb ∧ (isCreator io = false → nb = []) ∧ ∀ (e : Env) (ρ : Ren) (hp : Nat → Option Blk) (w : World) (a : Act) (Q : Exit → Act → World → Prop), (∀ t, eget e t = L t) → Rel ρ hp w →
    (if isCal io then (∀ b B, hblk (hideH G made (hidOf io)) b = some B → hp b = some B) else Agree ρ hp G) → Dom ρ G.length → Reads ρ e a o → o.wp P a w (LP o a ρ hp w G.length v nb) Q) ∧
  (isMem io = false → G' = G ∧ ∀ (e : Env) (ρ : Ren) (w : World) (a : Act) (Q : Exit → Act → World → Prop), (∀ t, eget e t = L t) → Reads ρ e a o → Rel ρ (hblk (roOnly G0)) w → o.wp P a w (LP o a ρ (hblk (roOnly G0)) w G0.length v []) Q)
theorem Reads.same {ρ : Ren} {e e' : Env} {a : Act} {o : Oper} (h : ∀ t, eget e t = eget e' t) (k : Reads ρ e a o) : Reads ρ e' a o := fun x hx t ht => by rw [← h]; exact k x hx t ht
/-- An operation that touches no memory does not look at the heap. -/
theorem evOp_pure {io : IOp} (hm : isMem io = false) (hl : isLdr io = false) (made : List (Nat × Nat × Nat)) (e : Env) (H : Heap) (K : Value → Heap → Option R) : evOp C made io e H K = evOp C made io e [] (fun v _ => K v H) := by
  cases io <;> first | rfl | (simp [isMem, isBar] at hm; done) | (simp [isLdr] at hl; done)
/-- A load from a read-only block of the region's first heap. -/
theorem evOp_ldr {k : VK} {x : X} {made : List (Nat × Nat × Nat)} {e : Env} {H : Heap} {K : Value → Heap → Option R} {r : R} (h : evOp C made (.ldr k x) e H K = some r) : evOp C made (.ld k x) e (roOnly H) (fun v _ => K v H) = some r := by
  simp only [evOp] at h ⊢
  split at h
  · rename_i a ha
    cases hq : isRo H a with
    | false => rw [hq] at h; cases h
    | true =>
      rw [hq, cond_true] at h
      cases k with
      | sc s => simp only at h ⊢; rw [ldS_ro hq]; exact h
      | agg ks => simp only at h ⊢; rw [ldN_ro hq]; exact h
  · cases h
theorem eff_ldr (hC : CSound P C) {o : Oper} {bar : Bool} {hide : List Nat} {k : VK} {x : X} (htr : trOp P an bar hide o.op o.type = some (.ld k x)) {made : List (Nat × Nat × Nat)} {e : Env} {H0 H : Heap} {K : Value → Heap → Option R} {r : R} (hr : evO C H0 made (.ldr k x) e H K = some r) :
    ∃ v H', K v H' = some r ∧ Eff P o (.ldr k x) (eget e) H0 H made v H' := by
  simp only [evO] at hr
  have h := trOp_ok (made := made) hC htr (evOp_ldr hr)
  unfold OpOK at h
  simp only [isBar, isCal, Bool.false_eq_true, if_false] at h
  obtain ⟨v, nb, h1, h2, h3⟩ := h
  have hnb := h2 rfl
  subst hnb
  refine ⟨v, H, h1, Nat.le_refl _, (fun hh => by simp [isBar] at hh), (fun _ hh => by simp [isMem, isBar] at hh), fun _ => ⟨rfl, fun e' ρ w a Q he hE hR => ?_⟩⟩
  have := h3 ρ _ w a Q hR (fun b _ _ => rfl) (fun b h1 h2 => by simp at h2; omega) (Reads.same he hE)
  rwa [roOnly_len] at this
theorem eff_of (hC : CSound P C) {o : Oper} {bar : Bool} {hide : List Nat} {io : IOp} (htr : trOp P an bar hide o.op o.type = some io) (hl : isLdr io = false) {made : List (Nat × Nat × Nat)} {e : Env} {H0 H : Heap} {K : Value → Heap → Option R} {r : R} (hr : evO C H0 made io e H K = some r) :
    ∃ v H', K v H' = some r ∧ Eff P o io (eget e) H0 H made v H' := by
  rw [evO_of hl] at hr
  cases hm : isMem io with
  | false =>
    rw [evOp_pure hm hl] at hr
    have h := trOp_ok (made := made) hC htr hr
    have hb : isBar io = false := by cases io <;> first | rfl | (simp [isMem, isBar] at hm)
    have hc : isCal io = false := by cases io <;> first | rfl | (simp [isMem, isBar] at hm)
    have hcr : isCreator io = false := by cases io <;> first | rfl | (simp [isMem, isBar] at hm)
    unfold OpOK at h
    rw [hb, hc] at h
    simp only [Bool.false_eq_true, if_false] at h
    obtain ⟨v, nb, h1, h2, h3⟩ := h
    have hnb := h2 hcr
    subst hnb
    refine ⟨v, H, h1, Nat.le_refl _, (fun hh => by rw [hb] at hh; cases hh), (fun _ hh => by rw [hm] at hh; cases hh), fun _ => ⟨rfl, fun e' ρ w a Q he hE hR => ?_⟩⟩
    refine Oper.wp_mono ?_ (h3 ρ _ w a Q hR (fun b hb => by simp at hb) (fun b h1 h2 => by simp at h2) (Reads.same he hE))
    rintro a' w' ⟨ρ', v', k1, k2, k3, k4⟩
    refine ⟨ρ', v', k1, k2, ?_, fun b hb => (k4 b hb).imp id (fun h => by simp at h)⟩
    have e1 : ∀ n, hpu (hblk (roOnly H0)) n [] = hblk (roOnly H0) := fun n => by funext b; unfold hpu; rw [if_neg (by simp)]; 
    rw [e1] at k3 ⊢; exact k3
  | true =>
    have h := trOp_ok (made := made) hC htr hr
    unfold OpOK at h
    cases hb : isBar io with
    | true =>
      rw [hb] at h
      simp only [if_true] at h
      obtain ⟨v, H', h1, h2, h3⟩ := h
      exact ⟨v, H', h1, h2, fun _ e' ρ w a Q he hR hD hE => h3 ρ w a Q hR hD (Reads.same he hE), (fun hh => by rw [hb] at hh; cases hh), (fun hh => by rw [hm] at hh; cases hh)⟩
    | false =>
      rw [hb] at h
      simp only [Bool.false_eq_true, if_false] at h
      cases hc : isCal io with
      | true =>
        rw [hc] at h
        simp only [if_true] at h
        obtain ⟨v, nb, h1, h2, h3⟩ := h
        refine ⟨v, H ++ nb, h1, by simp, (fun hh => by rw [hb] at hh; cases hh), fun _ _ => ⟨nb, rfl, h2, fun e' ρ hp w a Q he hR hs hD hE => ?_⟩, (fun hh => by rw [hm] at hh; cases hh)⟩
        rw [hc] at hs
        simp only [if_true] at hs
        exact h3 ρ hp w a Q hR hs hD (Reads.same he hE)
      | false =>
        rw [hc] at h
        simp only [Bool.false_eq_true, if_false] at h
        obtain ⟨v, nb, h1, h2, h3⟩ := h
        refine ⟨v, H ++ nb, h1, by simp, (fun hh => by rw [hb] at hh; cases hh), fun _ _ => ⟨nb, rfl, h2, fun e' ρ hp w a Q he hR hs hD hE => ?_⟩, (fun hh => by rw [hm] at hh; cases hh)⟩
        rw [hc] at hs
        simp only [Bool.false_eq_true, if_false] at hs
        exact h3 ρ hp w a Q hR hs (fun b hb _ => hD b hb) (Reads.same he hE)
/-- Whether a guard lets the operation run. -/
def gex (io : IOper) (L : Nat → Value) : Option Bool :=
  match io.guard with
  | none => some true
  | some (g, want) => match L g with
    | .bool t => some (t == want)
    | .tuple cs => bif Nat.beq cs.toList.length 1 then some false else none
    | _ => none
/-- A step of the text's order. -/
def StepR (P : Program) (o : Oper) (io : IOper) (i : Nat) (L : Nat → Value) (G0 G : Heap) (M : List (Nat × Nat × Nat)) (v : Value) (L' : Nat → Value) (G' : Heap) (M' : List (Nat × Nat × Nat)) : Prop :=
  (∀ t, L' t = if o.dst = some t then v else L t) ∧
  ((gex io L = some true ∧ Eff P o io.op L G0 G M v G' ∧ M' = (bif isCreator io.op then (i, G.length, G'.length) :: M else M) ∧ ∃ e : Env, ∀ t, eget e t = L t) ∨ (gex io L = some false ∧ v = skp ∧ G' = G ∧ M' = M))
theorem eget_eput (d : Option Nat) (v : Value) (e : Env) (t : Nat) : eget (eput d v e) t = if d = some t then v else eget e t := by
  cases d with
  | none => simp [eput]
  | some d =>
    simp only [eput, eget]
    by_cases c : d = t
    · subst c
      have : Nat.beq d d = true := Nat.beq_refl d
      rw [this, cond_true]; simp
    · rw [beqF c, cond_false, if_neg (by simpa using c)]
theorem eget_alias {e : Env} {g : Nat} {v : Value} (h : eget e g = v) (t : Nat) : eget ((g, v) :: e) t = eget e t := by
  simp only [eget]
  by_cases c : g = t
  · subst c
    have : Nat.beq g g = true := Nat.beq_refl g
    rw [this, cond_true, h]
  · rw [beqF c, cond_false]
def RunEx (P : Program) (os : List Oper) (ios : List IOper) (i : Nat) (made : List (Nat × Nat × Nat)) (e : Env) (H0 H : Heap) (K : Env → Heap → Option R) (r : R) : Prop :=
    ∃ (Lf : Nat → Nat → Value) (Gf : Nat → Heap) (Vf : Nat → Value) (Mf : Nat → List (Nat × Nat × Nat)) (e' : Env), (∀ t, Lf 0 t = eget e t) ∧ Gf 0 = H ∧ Mf 0 = made ∧ (∀ t, eget e' t = Lf os.length t) ∧ K e' (Gf os.length) = some r ∧
      ios.length = os.length ∧ ∀ j o io, os[j]? = some o → ios[j]? = some io → StepR P o io (i + j) (Lf j) H0 (Gf j) (Mf j) (Vf j) (Lf (j + 1)) (Gf (j + 1)) (Mf (j + 1))
theorem run_of (hC : CSound P C) {all : List Oper} {bf : List (List Nat)} (H0 : Heap) : ∀ (os : List Oper) (ios : List IOper) (i : Nat), trOs P an nt all true bf i os = some ios →
    ∀ (made : List (Nat × Nat × Nat)) (e : Env) (H : Heap) (K : Env → Heap → Option R) (r : R), evOps C H0 ios i made e H K = some r → RunEx P os ios i made e H0 H K r := by
  intro os
  induction os with
  | nil =>
    intro ios i htr made e H K r h
    simp [trOs] at htr
    subst htr
    exact ⟨fun _ => eget e, fun _ => H, fun _ => undef, fun _ => made, e, fun _ => rfl, rfl, rfl, fun _ => rfl, h, rfl, fun j o io hj => by simp at hj⟩
  | cons o os ih =>
    intro ios i htr made e H K r h
    simp only [trOs] at htr
    split at htr
    · rename_i io ios' h1 h2
      cases htr
      have fin : ∀ (e2 : Env) (v : Value) (H1 : Heap) (M1 : List (Nat × Nat × Nat)), (∀ t, eget e2 t = eget e t) → evOps C H0 ios' (i + 1) M1 (eput o.dst v e2) H1 K = some r →
          ((gex io (eget e) = some true ∧ Eff P o io.op (eget e) H0 H made v H1 ∧ M1 = (bif isCreator io.op then (i, H.length, H1.length) :: made else made) ∧ ∃ e' : Env, ∀ t, eget e' t = eget e t) ∨ (gex io (eget e) = some false ∧ v = skp ∧ H1 = H ∧ M1 = made)) →
          RunEx P (o :: os) (io :: ios') i made e H0 H K r := by
        intro e2 v H1 M1 he hev hst
        obtain ⟨Lf, Gf, Vf, Mf, e', g1, g2, g3, g4, g5, g6, g7⟩ := ih ios' (i + 1) h2 M1 _ H1 K r hev
        refine ⟨fun j => match j with | 0 => eget e | j + 1 => Lf j, fun j => match j with | 0 => H | j + 1 => Gf j, fun j => match j with | 0 => v | j + 1 => Vf j, fun j => match j with | 0 => made | j + 1 => Mf j, e', fun _ => rfl, rfl, rfl, g4, g5, by simp [g6], fun j o' io' hj hi => ?_⟩
        cases j with
        | zero =>
          simp at hj hi
          subst hj hi
          refine ⟨fun t => ?_, ?_⟩
          · show Lf 0 t = _
            rw [g1, eget_eput, he]
          · show (gex io (eget e) = some true ∧ Eff P o io.op (eget e) H0 H made v (Gf 0) ∧ Mf 0 = (bif isCreator io.op then (i + 0, H.length, (Gf 0).length) :: made else made) ∧ ∃ e' : Env, ∀ t, eget e' t = eget e t) ∨ (gex io (eget e) = some false ∧ v = skp ∧ Gf 0 = H ∧ Mf 0 = made)
            rw [g2, g3]
            exact hst
        | succ j =>
          simp at hj hi
          have := g7 j o' io' hj hi
          rwa [show i + 1 + j = i + (j + 1) from by omega] at this
      have hdst : io.dst = o.dst ∧ ∀ (made : List (Nat × Nat × Nat)) (e : Env) (H : Heap) (K : Value → Heap → Option R) (r : R), evO C H0 made io.op e H K = some r → ∃ v H', K v H' = some r ∧ Eff P o io.op (eget e) H0 H made v H' := by
        unfold trO at h1
        split at h1
        · rename_i op hop
          cases hd : dstOk nt o.dst && !(isLdr op) with
          | false => rw [hd] at h1; cases h1
          | true =>
            rw [hd, cond_true] at h1
            rw [Bool.and_eq_true, Bool.not_eq_true'] at hd
            have key : ∀ (b : Bool) (made : List (Nat × Nat × Nat)) (e : Env) (H : Heap) (K : Value → Heap → Option R) (r : R), evO C H0 made (bif b then toLdr op else op) e H K = some r → ∃ v H', K v H' = some r ∧ Eff P o (bif b then toLdr op else op) (eget e) H0 H made v H' := by
              intro b made e H K r h
              cases b with
              | false => exact eff_of hC hop hd.2 h
              | true =>
                rw [cond_true] at h ⊢
                cases op with
                | ld k x => exact eff_ldr hC hop h
                | _ => exact eff_of hC hop hd.2 h
            split at h1
            · cases h1; exact ⟨rfl, key _⟩
            · split at h1
              · cases h1; exact ⟨rfl, key _⟩
              · cases h1
        · cases h1
      obtain ⟨hdst, hop⟩ := hdst
      simp only [evOps] at h
      cases hg : io.guard with
      | none =>
        rw [hg] at h
        simp only at h
        obtain ⟨v, H1, k1, k2⟩ := hop _ _ _ _ _ h
        rw [hdst] at k1
        exact fin e v H1 _ (fun _ => rfl) k1 (.inl ⟨by simp [gex, hg], k2, rfl, e, fun _ => rfl⟩)
      | some gw =>
        obtain ⟨g, want⟩ := gw
        rw [hg] at h
        simp only at h
        split at h
        · rename_i t ht
          have hal : ∀ b, b = t → ∀ x, eget ((g, Value.bool b) :: e) x = eget e x := fun b hb x => eget_alias (by rw [ht, hb]) x
          have hgx : gex io (eget e) = some (t == want) := by simp [gex, hg, ht]
          have exec : evO C H0 made io.op ((g, .bool t) :: e) H (fun v H' => evOps C H0 ios' (i + 1) (bif isCreator io.op then (i, H.length, H'.length) :: made else made) (eput io.dst v ((g, .bool t) :: e)) H' K) = some r → (t == want) = true → RunEx P (o :: os) (io :: ios') i made e H0 H K r := fun h hw => by
            obtain ⟨v, H1, k1, k2⟩ := hop _ _ _ _ _ h
            rw [hdst] at k1
            have k2' : Eff P o io.op (eget e) H0 H made v H1 := by
              have : eget ((g, Value.bool t) :: e) = eget e := funext (hal t rfl)
              rwa [this] at k2
            exact fin _ v H1 _ (hal t rfl) k1 (.inl ⟨by rw [hgx, hw], k2', rfl, e, fun _ => rfl⟩)
          have skip : evOps C H0 ios' (i + 1) made (eput io.dst skp ((g, .bool t) :: e)) H K = some r → (t == want) = false → RunEx P (o :: os) (io :: ios') i made e H0 H K r := fun h hw => by
            rw [hdst] at h
            exact fin _ skp H made (hal t rfl) h (.inr ⟨by rw [hgx, hw], rfl, rfl, rfl⟩)
          cases t with
          | true =>
            rw [cond_true] at h
            cases want with
            | true => rw [cond_true] at h; exact exec h rfl
            | false => rw [cond_false] at h; exact skip h rfl
          | false =>
            rw [cond_false] at h
            cases want with
            | true => rw [cond_true] at h; exact skip h rfl
            | false => rw [cond_false] at h; exact exec h rfl
        · rename_i cs ht
          cases hc : Nat.beq cs.toList.length 1 with
          | false => rw [hc] at h; cases h
          | true =>
            rw [hc, cond_true] at h
            rw [hdst] at h
            exact fin e skp H made (fun _ => rfl) h (.inr ⟨by simp only [gex, hg, ht, hc, cond_true], rfl, rfl, rfl⟩)
        · cases h
    · cases htr
theorem mem_indexed {α : Type} : ∀ (l : List α) (n i : Nat) (x : α), l[i]? = some x → (n + i, x) ∈ indexed n l := by
  intro l
  induction l with
  | nil => intro n i x h; simp at h
  | cons y l ih =>
    intro n i x h
    cases i with
    | zero => simp at h; subst h; simp [indexed]
    | succ i =>
      simp at h
      have := ih (n + 1) i x h
      rw [show n + 1 + i = n + (i + 1) from by omega] at this
      simp [indexed, this]
/-- All that is known of a drawn region. -/
structure DR (P : Program) (nt : Nat) (ops : Array Oper) (ios : List IOper) (bf : List (List Nat)) where
  Lf : Nat → Nat → Value
  Gf : Nat → Heap
  Vf : Nat → Value
  Mf : Nat → List (Nat × Nat × Nat)
  len : ios.length = ops.size
  step : ∀ (j : Nat) (o : Oper) (io : IOper), ops[j]? = some o → ios[j]? = some io → StepR P o io j (Lf j) (Gf 0) (Gf j) (Mf j) (Vf j) (Lf (j + 1)) (Gf (j + 1)) (Mf (j + 1))
  m0 : Mf 0 = []
  dst : ∀ (j : Nat) (o : Oper) (io : IOper), ops[j]? = some o → ios[j]? = some io → io.dst = o.dst ∧ dstOk nt o.dst = true
  grd : ∀ (j : Nat) (o : Oper) (io : IOper), ops[j]? = some o → ios[j]? = some io → (o.guard = none ∧ io.guard = none) ∨ ∃ k g want, o.guard = some (k, want) ∧ io.guard = some (g, want) ∧ dstOf ops.toList k = some g
  bef : ∀ (j : Nat) (o : Oper), ops[j]? = some o → ∀ e ∈ o.after.toList, Region.binds .any e = true → e.on < j
  anc : ∀ (j : Nat) (o : Oper), ops[j]? = some o → ∀ i, bound bf i j = true → ∃ e ∈ o.after.toList, Region.binds .any e = true ∧ e.on < j ∧ (e.on = i ∨ bound bf i e.on = true)
  cfl : ∀ (i j : Nat) (o : Oper) (io : IOper) (o' : Oper) (io' : IOper), i < j → ops[i]? = some o → ios[i]? = some io → ops[j]? = some o' → ios[j]? = some io' → bound bf i j = true ∨
    (confl o io o' io' = false ∧ (isBar io.op && isMem io'.op) = false ∧ (isMem io.op && isBar io'.op) = false ∧ (isCreator io.op = true → isCal io'.op = true → (hidOf io'.op).elem i = true))
namespace DR
variable {ops : Array Oper} {ios : List IOper} {bf : List (List Nat)} (d : DR P nt ops ios bf)
theorem io_of (d : DR P nt ops ios bf) {j : Nat} {o : Oper} (h : ops[j]? = some o) : ∃ io, ios[j]? = some io := by
  have : j < ops.size := (Array.getElem?_eq_some_iff.1 h).1
  exact ⟨_, List.getElem?_eq_getElem (by rw [d.len]; exact this)⟩
theorem both (d : DR P nt ops ios bf) {j : Nat} (h : j < ops.size) : ∃ o io, ops[j]? = some o ∧ ios[j]? = some io :=
  ⟨_, _, Array.getElem?_eq_getElem h, List.getElem?_eq_getElem (by rw [d.len]; exact h)⟩
def lvl (i : Nat) : Nat := (d.Gf i).length
theorem lvl_succ {i : Nat} (h : i < ops.size) : d.lvl i ≤ d.lvl (i + 1) := by
  obtain ⟨o, io, h1, h2⟩ := d.both h
  rcases (d.step i o io h1 h2).2 with ⟨_, e, _⟩ | ⟨_, _, e, _⟩
  · exact e.1
  · unfold lvl; rw [e]; exact Nat.le_refl _
theorem lvl_mono : ∀ {i j : Nat}, i ≤ j → j ≤ ops.size → d.lvl i ≤ d.lvl j := by
  intro i j hij hj
  induction j with
  | zero => have : i = 0 := by omega
            subst this; exact Nat.le_refl _
  | succ j ih =>
    by_cases c : i = j + 1
    · subst c; exact Nat.le_refl _
    · exact Nat.le_trans (ih (by omega) (by omega)) (d.lvl_succ (by omega))
def isB (j : Nat) : Prop := ∃ io, ios[j]? = some io ∧ isBar io.op = true
def isM (j : Nat) : Prop := ∃ io, ios[j]? = some io ∧ isMem io.op = true
theorem bm {io : IOp} (h : isBar io = true) : isMem io = true := by cases io <;> first | rfl | (simp [isBar] at h)
/-- A step that leaves what was alone. -/
def Ext (i : Nat) : Prop := ∀ b, b < d.lvl i → hblk (d.Gf (i + 1)) b = hblk (d.Gf i) b
theorem ext_app {G nb : Heap} {b : Nat} (h : b < G.length) : hblk (G ++ nb) b = hblk G b := by
  rw [hblk_append]; unfold hpu; rw [if_neg (by omega)]
theorem ext_of {i : Nat} (h : i < ops.size) (hb : ¬ isB (ios := ios) i ∨ d.Gf (i + 1) = d.Gf i) : d.Ext i := by
  obtain ⟨o, io, h1, h2⟩ := d.both h
  intro b hlt
  rcases hb with hb | hb
  · rcases (d.step i o io h1 h2).2 with ⟨_, e, _⟩ | ⟨_, _, e, _⟩
    · have hbar : isBar io.op = false := by
        cases q : isBar io.op with
        | false => rfl
        | true => exact (hb ⟨io, h2, q⟩).elim
      cases hm : isMem io.op with
      | false => rw [(e.2.2.2 hm).1]
      | true =>
        obtain ⟨nb, h3, _⟩ := e.2.2.1 hbar hm
        rw [h3]; exact ext_app hlt
    · rw [e]
  · rw [hb]
theorem seg : ∀ {p q : Nat}, p ≤ q → q ≤ ops.size → (∀ i, p ≤ i → i < q → d.Ext i) → ∀ b, b < d.lvl p → hblk (d.Gf q) b = hblk (d.Gf p) b := by
  intro p q hpq hq hx b hb
  induction q with
  | zero => have : p = 0 := by omega
            subst this; rfl
  | succ q ih =>
    by_cases c : p = q + 1
    · subst c; rfl
    · rw [hx q (by omega) (by omega) b (Nat.lt_of_lt_of_le hb (d.lvl_mono (by omega) (by omega)))]
      exact ih (by omega) (by omega) (fun i h1 h2 => hx i h1 (by omega))
theorem grow_mem {i : Nat} (h : i < ops.size) (hg : d.lvl i < d.lvl (i + 1)) : isM (ios := ios) i ∧ ∃ o io, ops[i]? = some o ∧ ios[i]? = some io ∧ gex io (d.Lf i) = some true ∧ Eff P o io.op (d.Lf i) (d.Gf 0) (d.Gf i) (d.Mf i) (d.Vf i) (d.Gf (i + 1)) ∧ (isBar io.op = true ∨ isCreator io.op = true) ∧
    d.Mf (i + 1) = (bif isCreator io.op then (i, (d.Gf i).length, (d.Gf (i + 1)).length) :: d.Mf i else d.Mf i) := by
  obtain ⟨o, io, h1, h2⟩ := d.both h
  rcases (d.step i o io h1 h2).2 with ⟨e0, e, e3⟩ | ⟨_, _, e, _⟩
  · cases hm : isMem io.op with
    | false => have := (e.2.2.2 hm).1; unfold lvl at hg; rw [this] at hg; omega
    | true =>
      refine ⟨⟨io, h2, hm⟩, o, io, h1, h2, e0, e, ?_, e3.1⟩
      cases hb : isBar io.op with
      | true => exact .inl rfl
      | false =>
        obtain ⟨nb, k1, k2, _⟩ := e.2.2.1 hb hm
        cases hc : isCreator io.op with
        | true => exact .inr rfl
        | false => have := k2 hc; subst this; unfold lvl at hg; rw [k1] at hg; simp at hg
  · unfold lvl at hg; rw [e] at hg; omega
/-- What the operations done so far have left in the frame: the value, and the level up to which its addresses go. -/
def cur (S : Nat → Bool) : Nat → Nat → Value × Nat
  | 0, t => (d.Lf 0 t, 0)
  | i + 1, t => if S i = true ∧ dstOf ops.toList i = some t then (d.Vf i, i + 1) else cur S i t
theorem dstOf_eq {i : Nat} {o : Oper} (h : ops[i]? = some o) : dstOf ops.toList i = o.dst := by
  unfold dstOf
  rw [Array.getElem?_toList, h]
theorem cur_low (S : Nat → Bool) {t : Nat} : ∀ {j : Nat}, j ≤ ops.size → (∀ i, i < j → dstOf ops.toList i = some t → S i = true) → (d.cur S j t).1 = d.Lf j t ∧ (d.cur S j t).2 ≤ j := by
  intro j
  induction j with
  | zero => intro _ _; exact ⟨rfl, Nat.le_refl _⟩
  | succ j ih =>
    intro hj h
    obtain ⟨o, io, h1, h2⟩ := d.both (show j < ops.size by omega)
    have hs := (d.step j o io h1 h2).1 t
    obtain ⟨k1, k2⟩ := ih (by omega) (fun i hi => h i (by omega))
    rw [hs]
    unfold cur
    rw [dstOf_eq h1]
    by_cases c : o.dst = some t
    · have := h j (by omega) (by rw [dstOf_eq h1]; exact c)
      rw [if_pos ⟨this, c⟩, if_pos c]
      exact ⟨rfl, Nat.le_refl _⟩
    · rw [if_neg (fun hh => c hh.2), if_neg c]
      exact ⟨k1, by omega⟩
theorem cur_high (S : Nat → Bool) {t : Nat} : ∀ {j q : Nat}, j ≤ q → (∀ i, j ≤ i → i < q → dstOf ops.toList i = some t → S i = false) → d.cur S q t = d.cur S j t := by
  intro j q hjq h
  induction q with
  | zero => have : j = 0 := by omega
            subst this; rfl
  | succ q ih =>
    by_cases c : j = q + 1
    · subst c; rfl
    · show (if S q = true ∧ dstOf ops.toList q = some t then (d.Vf q, q + 1) else d.cur S q t) = _
      rw [if_neg (fun hh => by have := h q (by omega) (by omega) hh.2; rw [this] at hh; simp at hh)]
      exact ih (by omega) (fun i h1 h2 => h i h1 (by omega))
theorem cur_level (S : Nat → Bool) (t : Nat) : ∀ q, (d.cur S q t).2 ≤ q := by
  intro q
  induction q with
  | zero => exact Nat.le_refl _
  | succ q ih =>
    show (if S q = true ∧ dstOf ops.toList q = some t then (d.Vf q, q + 1) else d.cur S q t).2 ≤ q + 1
    split
    · exact Nat.le_refl _
    · omega
theorem cur_same {S S' : Nat → Bool} {t : Nat} : ∀ {q : Nat}, (∀ i, i < q → dstOf ops.toList i = some t → S i = S' i) → d.cur S q t = d.cur S' q t := by
  intro q
  induction q with
  | zero => intro _; rfl
  | succ q ih =>
    intro h
    show (if S q = true ∧ dstOf ops.toList q = some t then (d.Vf q, q + 1) else d.cur S q t) = (if S' q = true ∧ dstOf ops.toList q = some t then (d.Vf q, q + 1) else d.cur S' q t)
    rw [ih (fun i hi => h i (by omega))]
    by_cases c : dstOf ops.toList q = some t
    · rw [h q (by omega) c]
    · rw [if_neg (fun hh => c hh.2), if_neg (fun hh => c hh.2)]
/-- The blocks of the operations done. -/
def Vis (S : Nat → Bool) (b : Nat) : Prop := b < d.lvl 0 ∨ ∃ i, i < ops.size ∧ S i = true ∧ d.lvl i ≤ b ∧ b < d.lvl (i + 1)
open Classical in
noncomputable def hpS (S : Nat → Bool) (T : Nat) : Nat → Option Blk := fun b => if d.Vis S b then hblk (d.Gf T) b else none
def lst (l : Array Bool) (j : Nat) : Bool := l.getD j false
structure Inv (w0 : World) (ρ0 : Ren) (l : Array Bool) (T : Nat) (ρ : Ren) (a : Act) (w : World) : Prop where
  size : l.size = ops.size
  low : ∀ i j, i < j → j < ops.size → lst l j = true → bound bf i j = true → lst l i = true
  tn : T ≤ ops.size
  t1 : ∀ i, i < T → isB (ios := ios) i → lst l i = true
  t2 : ∀ i, T ≤ i → i < ops.size → isM (ios := ios) i → lst l i = false
  t3 : T = ops.size ∨ isB (ios := ios) T
  dom : ∀ b, ρ b ≠ none → d.Vis (lst l) b
  old : ∀ b, b < d.lvl 0 → ρ b ≠ none → ρ0 b ≠ none
  dom0 : Dom ρ0 (d.lvl 0)
  lev : ∀ i, i ≤ T → (∀ q, isB (ios := ios) q → q < T → q < i) → Rel (cut ρ (d.lvl i)) (cutH (d.hpS (lst l) T) (d.lvl i)) w
  goes : Goes ρ0 (hblk (d.Gf 0)) w0 ρ (d.hpS (lst l) T) w
  env : ∀ t, V0 (cut ρ (d.lvl (d.cur (lst l) ops.size t).2)) (d.cur (lst l) ops.size t).1 (a.tmps.getD t undef)
  dfr : a.defers = []
  big : nt ≤ a.tmps.size
theorem bound_low {d : DR P nt ops ios bf} {i j : Nat} {o : Oper} (hj : ops[j]? = some o) (h : bound bf i j = true) : i < j := by
  revert i
  induction j using Nat.strongRecOn generalizing o with
  | _ j ih =>
    intro i h
    obtain ⟨e, _, _, h1, h2⟩ := d.anc j o hj i h
    rcases h2 with h2 | h2
    · omega
    · have hlt : e.on < ops.size := by have := (Array.getElem?_eq_some_iff.1 hj).1; omega
      have := ih e.on h1 (Array.getElem?_eq_getElem hlt) h2
      omega
/-- A ready operation's forerunners have been done. -/
theorem pre_of {d : DR P nt ops ios bf} {l : Array Bool} (hlow : ∀ i j, i < j → j < ops.size → lst l j = true → bound bf i j = true → lst l i = true) {j : Nat} {o : Oper} (hj : ops[j]? = some o) (hr : ∀ e ∈ o.after.toList, Region.binds .any e = true → lst l e.on = true) {i : Nat} (h : bound bf i j = true) : lst l i = true := by
  obtain ⟨e, h0, h1, h2, h3⟩ := d.anc j o hj i h
  rcases h3 with h3 | h3
  · rw [← h3]; exact hr e h0 h1
  · have hlt : e.on < ops.size := by have := (Array.getElem?_eq_some_iff.1 hj).1; omega
    exact hlow i e.on (bound_low (d := d) (Array.getElem?_eq_getElem hlt) h3) hlt (hr e h0 h1) h3
/-- What the frame holds of what an operation reads. -/
theorem env_read {d : DR P nt ops ios bf} {w0 w : World} {ρ0 ρ : Ren} {l : Array Bool} {T : Nat} {a : Act} (I : d.Inv w0 ρ0 l T ρ a w) {j : Nat} {o : Oper} {io : IOper} (hj : ops[j]? = some o) (hio : ios[j]? = some io) (hn : lst l j = false)
    (hpre : ∀ i, bound bf i j = true → lst l i = true) {t : Nat} (ht : t ∈ namesOf o io ∨ o.dst = some t) (hself : o.dst = some t → lst l j = false) :
    (d.cur (lst l) ops.size t).1 = d.Lf j t ∧ (d.cur (lst l) ops.size t).2 ≤ j := by
  have hlt : j < ops.size := (Array.getElem?_eq_some_iff.1 hj).1
  have hw1 : ∀ i, i < j → dstOf ops.toList i = some t → lst l i = true := by
    intro i hi hd
    obtain ⟨o', io', h1, h2⟩ := d.both (show i < ops.size by omega)
    rcases d.cfl i j o' io' o io hi h1 h2 hj hio with h | ⟨h, _⟩
    · exact hpre i h
    · rw [dstOf_eq h1] at hd
      have e1 := (d.dst i o' io' h1 h2).1
      have e2 := (d.dst j o io hj hio).1
      exfalso
      unfold confl at h
      rw [e1, hd] at h
      simp only [Bool.or_eq_false_iff] at h
      rcases ht with ht | ht
      · have := h.1.1; simp at this; exact this ht
      · have := h.1.2; rw [e2, ht] at this; simp at this
  have hw2 : ∀ i, j ≤ i → i < ops.size → dstOf ops.toList i = some t → lst l i = false := by
    intro i hi hin hd
    by_cases c : i = j
    · subst c; exact hn
    · obtain ⟨o', io', h1, h2⟩ := d.both hin
      cases hs : lst l i with
      | false => rfl
      | true =>
        rcases d.cfl j i o io o' io' (by omega) hj hio h1 h2 with h | ⟨h, _⟩
        · have := I.low j i (by omega) hin hs h; rw [hn] at this; cases this
        · rw [dstOf_eq h1] at hd
          have e1 := (d.dst i o' io' h1 h2).1
          have e2 := (d.dst j o io hj hio).1
          exfalso
          unfold confl at h
          rw [e1, hd] at h
          simp only [Bool.or_eq_false_iff] at h
          rcases ht with ht | ht
          · have := h.2; simp at this; exact this ht
          · have := h.1; rw [e2, ht] at this; simp at this
  rw [d.cur_high (lst l) (show j ≤ ops.size by omega) hw2]
  exact d.cur_low (lst l) (by omega) hw1
theorem lst_set {l : Array Bool} {j : Nat} (hj : j < l.size) (i : Nat) : lst (l.setIfInBounds j true) i = if i = j then true else lst l i := by
  unfold lst
  by_cases c : i = j
  · subst c; simp [hj]
  · rw [if_neg c]
    simp [Array.getElem?_setIfInBounds_ne (Ne.symm c)]
/-- The next barrier. -/
theorem next_bar {ios : List IOper} {n : Nat} : ∀ (k T : Nat), T < n → n - T = k → ∃ T', T < T' ∧ T' ≤ n ∧ (T' = n ∨ isB (ios := ios) T') ∧ ∀ i, T < i → i < T' → ¬ isB (ios := ios) i := by
  intro k
  induction k with
  | zero => intro T h1 h2; omega
  | succ k ih =>
    intro T h1 h2
    by_cases c : T + 1 = n
    · exact ⟨n, h1, Nat.le_refl _, .inl rfl, fun i h3 h4 => by omega⟩
    · by_cases hb : isB (ios := ios) (T + 1)
      · exact ⟨T + 1, by omega, by omega, .inr hb, fun i h3 h4 => by omega⟩
      · obtain ⟨T', g1, g2, g3, g4⟩ := ih (T + 1) (by omega) (by omega)
        refine ⟨T', by omega, g2, g3, fun i h3 h4 => ?_⟩
        by_cases e : i = T + 1
        · subst e; exact hb
        · exact g4 i (by omega) h4
section step
variable {d : DR P nt ops ios bf} {w0 w : World} {ρ0 ρ : Ren} {l : Array Bool} {T : Nat} {a : Act} {j : Nat} {o : Oper} {io : IOper}
/-- A ready operation that touches memory does not stand behind the next barrier. -/
theorem mem_le (I : d.Inv w0 ρ0 l T ρ a w) (hj : ops[j]? = some o) (hio : ios[j]? = some io) (hm : isMem io.op = true) (hpre : ∀ i, bound bf i j = true → lst l i = true) : j ≤ T := by
  have hlt : j < ops.size := (Array.getElem?_eq_some_iff.1 hj).1
  by_cases c : j ≤ T
  · exact c
  · exfalso
    have hT : isB (ios := ios) T := I.t3.resolve_left (by omega)
    obtain ⟨ioT, h1, h2⟩ := hT
    have hTn : T < ops.size := by omega
    have hns := I.t2 T (Nat.le_refl _) hTn ⟨ioT, h1, bm h2⟩
    rcases d.cfl T j _ ioT o io (by omega) (Array.getElem?_eq_getElem hTn) h1 hj hio with h | ⟨_, h, _⟩
    · rw [hpre T h] at hns; cases hns
    · rw [h2, hm] at h; cases h
theorem not_bar (I : d.Inv w0 ρ0 l T ρ a w) (hj : ops[j]? = some o) (hio : ios[j]? = some io) (hn : lst l j = false) (hpre : ∀ i, bound bf i j = true → lst l i = true) (hT : j ≠ T) : isBar io.op = false := by
  cases h : isBar io.op with
  | false => rfl
  | true =>
    have h1 := mem_le I hj hio (bm h) hpre
    have := I.t1 j (by omega) ⟨io, hio, h⟩
    rw [hn] at this; cases this
/-- Between such an operation and the next barrier stands no barrier. -/
theorem no_bar (I : d.Inv w0 ρ0 l T ρ a w) (hj : ops[j]? = some o) (hio : ios[j]? = some io) (hn : lst l j = false) (hm : isMem io.op = true) {i : Nat} (h1 : j ≤ i) (h2 : i < T) : ¬ isB (ios := ios) i := by
  intro hb
  have hs := I.t1 i h2 hb
  have hne : i ≠ j := fun e => by rw [e, hn] at hs; cases hs
  obtain ⟨ioi, k1, k2⟩ := hb
  have hin : i < ops.size := by have := I.tn; omega
  rcases d.cfl j i o io _ ioi (by omega) hj hio (Array.getElem?_eq_getElem hin) k1 with h | ⟨_, _, h, _⟩
  · have := I.low j i (by omega) hin hs h; rw [hn] at this; cases this
  · rw [hm, k2] at h; cases h
theorem cur_next (I : d.Inv w0 ρ0 l T ρ a w) (hj : ops[j]? = some o) (hio : ios[j]? = some io) (hn : lst l j = false) (t : Nat) :
    d.cur (lst (l.setIfInBounds j true)) ops.size t = if o.dst = some t then (d.Vf j, j + 1) else d.cur (lst l) ops.size t := by
  have hlt : j < ops.size := (Array.getElem?_eq_some_iff.1 hj).1
  have hls := lst_set (l := l) (j := j) (by rw [I.size]; exact hlt)
  split
  · rename_i hd
    have hw2 : ∀ i, j + 1 ≤ i → i < ops.size → dstOf ops.toList i = some t → lst (l.setIfInBounds j true) i = false := by
      intro i hi hin hdi
      rw [hls, if_neg (by omega)]
      obtain ⟨o', io', h1, h2⟩ := d.both hin
      cases hs : lst l i with
      | false => rfl
      | true =>
        rcases d.cfl j i o io o' io' (by omega) hj hio h1 h2 with h | ⟨h, _⟩
        · have := I.low j i (by omega) hin hs h; rw [hn] at this; cases this
        · rw [dstOf_eq h1] at hdi
          have e1 := (d.dst i o' io' h1 h2).1
          have e2 := (d.dst j o io hj hio).1
          exfalso
          unfold confl at h
          rw [e1, hdi] at h
          simp only [Bool.or_eq_false_iff] at h
          have := h.1; rw [e2, hd] at this; simp at this
    rw [d.cur_high _ (show j + 1 ≤ ops.size by omega) hw2]
    show (if lst (l.setIfInBounds j true) j = true ∧ dstOf ops.toList j = some t then (d.Vf j, j + 1) else _) = _
    rw [if_pos ⟨by rw [hls, if_pos rfl], by rw [dstOf_eq hj]; exact hd⟩]
  · rename_i hd
    refine d.cur_same fun i hi hdi => ?_
    rw [hls, if_neg]
    rintro rfl
    rw [dstOf_eq hj] at hdi
    exact hd hdi
/-- The frame behind a step. -/
theorem env_next (I : d.Inv w0 ρ0 l T ρ a w) (hj : ops[j]? = some o) (hio : ios[j]? = some io) (hn : lst l j = false) {ρ' : Ren} {v' : Value} (hle : Le ρ ρ') (hv : V0 (cut ρ' (d.lvl (j + 1))) (d.Vf j) v') (t : Nat) :
    V0 (cut ρ' (d.lvl (d.cur (lst (l.setIfInBounds j true)) ops.size t).2)) (d.cur (lst (l.setIfInBounds j true)) ops.size t).1 ((a.put o.dst v').tmps.getD t undef) := by
  have hok := (d.dst j o io hj hio).2
  rw [cur_next I hj hio hn t]
  cases hd : o.dst with
  | none => simp only [reduceCtorEq, if_false, Act.put]; exact (I.env t).mono (cut_mono hle (Nat.le_refl _))
  | some x =>
    rw [hd] at hok
    have hlt : x < nt := by simpa [dstOk, Nat.blt_eq] using hok
    by_cases c : x = t
    · subst c
      have hb : nt ≤ a.tmps.size := I.big
      have : x < a.tmps.size := Nat.lt_of_lt_of_le hlt hb
      simp only [if_true, Act.put]
      have e1 : (a.tmps.setIfInBounds x v').getD x undef = v' := by simp [this]
      rw [e1]; exact hv
    · have c' : ¬ (some x = some t) := by simpa using c
      rw [if_neg c']
      have e1 : ((a.put (some x) v').tmps).getD t undef = a.tmps.getD t undef := by simp [Act.put, Array.getElem?_setIfInBounds_ne c]
      rw [e1]; exact (I.env t).mono (cut_mono hle (Nat.le_refl _))
theorem put_parts (I : d.Inv w0 ρ0 l T ρ a w) (dst : Option Nat) (v' : Value) : (a.put dst v').defers = [] ∧ nt ≤ (a.put dst v').tmps.size := by
  cases dst with
  | none => exact ⟨I.dfr, I.big⟩
  | some x => exact ⟨I.dfr, by simpa [Act.put] using I.big⟩
theorem low_next (I : d.Inv w0 ρ0 l T ρ a w) (hj : ops[j]? = some o) (hpre : ∀ i, bound bf i j = true → lst l i = true) : ∀ i k, i < k → k < ops.size → lst (l.setIfInBounds j true) k = true → bound bf i k = true → lst (l.setIfInBounds j true) i = true := by
  have hlt : j < ops.size := (Array.getElem?_eq_some_iff.1 hj).1
  have hls := lst_set (l := l) (j := j) (by rw [I.size]; exact hlt)
  intro i k hik hk hs hb
  rw [hls] at hs ⊢
  by_cases c : i = j
  · rw [if_pos c]
  · rw [if_neg c]
    by_cases e : k = j
    · subst e; exact hpre i hb
    · rw [if_neg e] at hs; exact I.low i k hik hk hs hb
theorem vis_next (I : d.Inv w0 ρ0 l T ρ a w) (hj : ops[j]? = some o) (b : Nat) : d.Vis (lst (l.setIfInBounds j true)) b ↔ d.Vis (lst l) b ∨ (d.lvl j ≤ b ∧ b < d.lvl (j + 1)) := by
  have hlt : j < ops.size := (Array.getElem?_eq_some_iff.1 hj).1
  have hls := lst_set (l := l) (j := j) (by rw [I.size]; exact hlt)
  unfold Vis
  constructor
  · rintro (h | ⟨i, h1, h2, h3⟩)
    · exact .inl (.inl h)
    · rw [hls] at h2
      by_cases c : i = j
      · subst c; exact .inr h3
      · rw [if_neg c] at h2; exact .inl (.inr ⟨i, h1, h2, h3⟩)
  · rintro ((h | ⟨i, h1, h2, h3⟩) | h)
    · exact .inl h
    · refine .inr ⟨i, h1, ?_, h3⟩
      rw [hls]; split
      · rfl
      · exact h2
    · exact .inr ⟨j, hlt, by rw [hls, if_pos rfl], h⟩
theorem not_vis (I : d.Inv w0 ρ0 l T ρ a w) (hj : ops[j]? = some o) (hn : lst l j = false) {b : Nat} (h1 : d.lvl j ≤ b) (h2 : b < d.lvl (j + 1)) : ¬ d.Vis (lst l) b := by
  have hlt : j < ops.size := (Array.getElem?_eq_some_iff.1 hj).1
  rintro (h | ⟨i, k1, k2, k3, k4⟩)
  · have := d.lvl_mono (Nat.zero_le j) (by omega); omega
  · have hne : i ≠ j := fun e => by rw [e, hn] at k2; cases k2
    rcases Nat.lt_or_gt_of_ne hne with c | c
    · have := d.lvl_mono (show i + 1 ≤ j by omega) (by omega); omega
    · have := d.lvl_mono (show j + 1 ≤ i by omega) (by omega); omega
/-- A step that leaves heap and names as they are (skipped, or without memory), not at a barrier. -/
theorem step_still (I : d.Inv w0 ρ0 l T ρ a w) (hj : ops[j]? = some o) (hio : ios[j]? = some io) (hn : lst l j = false) (hpre : ∀ i, bound bf i j = true → lst l i = true) (hT : j ≠ T) (hG : d.lvl (j + 1) = d.lvl j) (hm : isMem io.op = true → j < T)
    {w' : World} {v' : Value} (hsame : ∀ c, c < w.heap.size → w'.heap[c]? = w.heap[c]?) (hk : w'.os = w.os ∧ w'.tape = w.tape ∧ w'.output = w.output ∧ w.heap.size ≤ w'.heap.size) (hv : V0 (cut ρ (d.lvl (j + 1))) (d.Vf j) v') :
    d.Inv w0 ρ0 (l.setIfInBounds j true) T ρ (a.put o.dst v') w' := by
  have hlt : j < ops.size := (Array.getElem?_eq_some_iff.1 hj).1
  have hls := lst_set (l := l) (j := j) (by rw [I.size]; exact hlt)
  have hvis : ∀ b, d.Vis (lst (l.setIfInBounds j true)) b ↔ d.Vis (lst l) b := fun b => by
    rw [vis_next I hj]
    exact ⟨fun h => h.elim id (fun h => by omega), .inl⟩
  have hhp : d.hpS (lst (l.setIfInBounds j true)) T = d.hpS (lst l) T := by
    funext b; unfold hpS
    by_cases c : d.Vis (lst l) b
    · rw [if_pos c, if_pos ((hvis b).2 c)]
    · rw [if_neg c, if_neg (fun h => c ((hvis b).1 h))]
  have hp := put_parts I o.dst v'
  refine ⟨by simp [I.size], low_next I hj hpre, I.tn, fun i h1 h2 => ?_, fun i h1 h2 h3 => ?_, I.t3, fun b hb => (hvis b).2 (I.dom b hb), I.old, I.dom0, fun i h1 h2 => ?_, ?_, env_next I hj hio hn (Le.refl _) hv, hp.1, hp.2⟩
  · rw [hls]; split
    · rfl
    · exact I.t1 i h1 h2
  · rw [hls]; split
    · rename_i c; subst c
      obtain ⟨io2, k1, k2⟩ := h3
      rw [hio] at k1; cases k1
      have := hm k2; omega
    · exact I.t2 i h1 h2 h3
  · rw [hhp]; exact (I.lev i h1 h2).same hsame
  · rw [hhp]
    refine I.goes.trans ⟨Le.refl _, I.goes.rel.same hsame, ⟨hk.1, hk.2.1, hk.2.2.1, hk.2.2.2, fun c hc _ => hsame c hc⟩, fun b B x dd hb hx => .inr (.inl ⟨B, hb, hx, id⟩)⟩
end step
theorem hideH_none (made : List (Nat × Nat × Nat)) {i lo hi b : Nat} (hm : (i, lo, hi) ∈ made) (h1 : lo ≤ b) (h2 : b < hi) : ∀ (hs : List Nat) (H : Heap), i ∈ hs → hblk (hideH H made hs) b = none := by
  have fold : ∀ (made : List (Nat × Nat × Nat)) (H : Heap), (i, lo, hi) ∈ made → hblk (hideH H made [i]) b = none := by
    intro made
    induction made with
    | nil => intro H h; cases h
    | cons m made ih =>
      intro H h
      show hblk (hideH _ made [i]) b = none
      rcases List.mem_cons.1 h with rfl | h
      · cases hq : hblk (hideH (bif Nat.beq i i then H.mapIdx (fun j x => bif Nat.ble lo j && Nat.blt j hi then none else x) else H) made [i]) b with
        | none => rfl
        | some B =>
          have := hideH_sub made [i] _ b B hq
          rw [Nat.beq_refl, cond_true, hblk_get, List.getElem?_mapIdx] at this
          have hp : (Nat.ble lo b && Nat.blt b hi) = true := by
            rw [Bool.and_eq_true]; exact ⟨by rw [Nat.ble_eq]; exact h1, by rw [Nat.blt_eq]; exact h2⟩
          rw [hp] at this
          cases hx : H[b]? with
          | none => rw [hx] at this; simp at this
          | some y => rw [hx] at this; simp at this
      · exact ih _ h
  intro hs
  induction hs with
  | nil => intro H h; cases h
  | cons x hs ih =>
    intro H h
    rcases List.mem_cons.1 h with rfl | h
    · cases hq : hblk (hideH H made (i :: hs)) b with
      | none => rfl
      | some B =>
        have : hblk (hideH (hideH H made [i]) made hs) b = some B := hq
        have := hideH_sub made hs _ b B this
        rw [fold made H hm] at this; cases this
    · exact ih _ h
section more
variable {d : DR P nt ops ios bf}
theorem made_mem (d : DR P nt ops ios bf) : ∀ {j : Nat}, j ≤ ops.size → ∀ (i : Nat) (o : Oper) (io : IOper), i < j → ops[i]? = some o → ios[i]? = some io → gex io (d.Lf i) = some true → isCreator io.op = true → (i, d.lvl i, d.lvl (i + 1)) ∈ d.Mf j := by
  intro j
  induction j with
  | zero => intro _ i _ _ h; omega
  | succ j ih =>
    intro hj i o io hi h1 h2 hg hc
    obtain ⟨o', io', k1, k2⟩ := d.both (show j < ops.size by omega)
    have hs := (d.step j o' io' k1 k2).2
    by_cases c : i = j
    · subst c
      rw [h1] at k1; cases k1
      rw [h2] at k2; cases k2
      rcases hs with ⟨_, _, e, _⟩ | ⟨e, _⟩
      · rw [e, hc, cond_true]; exact List.mem_cons_self
      · rw [hg] at e; cases e
    · have hold := ih (by omega) i o io (by omega) h1 h2 hg hc
      rcases hs with ⟨_, _, e, _⟩ | ⟨_, _, _, e⟩
      · rw [e]
        cases isCreator io'.op with
        | true => exact List.mem_cons_of_mem _ hold
        | false => exact hold
      · rw [e]; exact hold
theorem find_lvl (d : DR P nt ops ios bf) {b : Nat} : ∀ {q : Nat}, q ≤ ops.size → b < d.lvl q → b < d.lvl 0 ∨ ∃ i, i < q ∧ d.lvl i ≤ b ∧ b < d.lvl (i + 1) := by
  intro q
  induction q with
  | zero => intro _ h; exact .inl h
  | succ q ih =>
    intro hq h
    by_cases c : b < d.lvl q
    · rcases ih (by omega) c with h | ⟨i, h1, h2⟩
      · exact .inl h
      · exact .inr ⟨i, by omega, h2⟩
    · exact .inr ⟨q, by omega, by omega, h⟩
theorem hblk_ge {H : Heap} {b : Nat} (h : H.length ≤ b) : hblk H b = none := by
  rw [hblk_get, List.getElem?_eq_none h]; rfl
end more
section step
variable {d : DR P nt ops ios bf} {w0 w : World} {ρ0 ρ : Ren} {l : Array Bool} {T : Nat} {a : Act} {j : Nat} {o : Oper} {io : IOper}
theorem reads_of (I : d.Inv w0 ρ0 l T ρ a w) (hj : ops[j]? = some o) (hio : ios[j]? = some io) (hn : lst l j = false) (hpre : ∀ i, bound bf i j = true → lst l i = true) {e : Env} (he : ∀ t, eget e t = d.Lf j t) : Reads (cut ρ (d.lvl j)) e a o := by
  have hlt : j < ops.size := (Array.getElem?_eq_some_iff.1 hj).1
  intro x hx t ht
  have hmem : t ∈ namesOf o io := by
    unfold namesOf
    refine List.mem_append_left _ (List.mem_filterMap.2 ⟨x, by simpa using hx, ?_⟩)
    rw [ht]
  obtain ⟨h1, h2⟩ := env_read I hj hio hn hpre (.inl hmem) (fun _ => hn)
  have := I.env t
  rw [h1] at this
  rw [he]
  exact this.mono (cut_mono (Le.refl _) (d.lvl_mono h2 (by omega)))
/-- What was read-only at the region's start is so still. -/
theorem ro_rel (I : d.Inv w0 ρ0 l T ρ a w) {i : Nat} (hi : i ≤ ops.size) (hR : Rel ρ0 (hblk (d.Gf 0)) w0) : Rel (cut ρ (d.lvl i)) (hblk (roOnly (d.Gf 0))) w := by
  refine ⟨fun b B hb => ?_, fun b1 B1 b2 B2 x1 d1 x2 d2 k1 _ _ hro => ?_⟩
  · obtain ⟨hb0, hro⟩ := roOnly_some hb
    obtain ⟨b', dd, m, arr, el, fr, e1, e2, e3, e4, e5⟩ := hR.blk b B hb0
    have hbl : b < d.lvl 0 := by
      rcases Nat.lt_or_ge b (d.lvl 0) with h | h
      · exact h
      · rw [hblk_ge h] at hb0; cases hb0
    have hcut : Le ρ0 (cut ρ (d.lvl i)) := by
      intro c x hc
      have hcl : c < d.lvl 0 := by
        rcases Nat.lt_or_ge c (d.lvl 0) with h | h
        · exact h
        · rw [I.dom0 c h] at hc; cases hc
      unfold cut
      rw [if_pos (Nat.lt_of_lt_of_le hcl (d.lvl_mono (Nat.zero_le i) hi))]
      exact I.goes.le c x hc
    have hb'lt : b' < w0.heap.size := (Array.getElem?_eq_some_iff.1 e2).1
    have hsame : w.heap[b']? = w0.heap[b']? := I.goes.kept.block b' hb'lt fun b2 B2 d2 hb2 hro2 hx2 => by
      by_cases c : b2 = b
      · subst c; rw [hb0] at hb2; cases hb2; rw [hro] at hro2; cases hro2
      · exact hR.inj b2 B2 b B b' d2 b' dd hb2 hb0 c hro2 hx2 ⟨m, e1⟩ rfl
    exact ⟨b', dd, m, arr, el, fr, hcut _ _ e1, by rw [hsame]; exact e2, fun q v hv => (by obtain ⟨y, g1, g2⟩ := e3 q v hv; exact ⟨y, g1, g2.mono hcut⟩), e4, e5⟩
  · rw [(roOnly_some k1).2] at hro; cases hro
theorem step_pure (hR0 : Rel ρ0 (hblk (d.Gf 0)) w0) (I : d.Inv w0 ρ0 l T ρ a w) (hj : ops[j]? = some o) (hio : ios[j]? = some io) (hn : lst l j = false) (hpre : ∀ i, bound bf i j = true → lst l i = true) (hm : isMem io.op = false)
    (hE : Eff P o io.op (d.Lf j) (d.Gf 0) (d.Gf j) (d.Mf j) (d.Vf j) (d.Gf (j + 1))) {e : Env} (he : ∀ t, eget e t = d.Lf j t) (Q : Exit → Act → World → Prop) :
    o.wp P a w (fun a' w' => ∃ T' ρ', d.Inv w0 ρ0 (l.setIfInBounds j true) T' ρ' a' w') Q := by
  have hlt : j < ops.size := (Array.getElem?_eq_some_iff.1 hj).1
  obtain ⟨hG, hst⟩ := hE.2.2.2 hm
  have hlv : d.lvl (j + 1) = d.lvl j := by unfold lvl; rw [hG]
  have hT : j ≠ T := by
    rintro rfl
    rcases I.t3 with h | ⟨ioT, h1, h2⟩
    · omega
    · rw [hio] at h1; cases h1
      rw [bm h2] at hm; cases hm
  refine Oper.wp_mono ?_ (hst e (cut ρ (d.lvl j)) w a Q he (reads_of I hj hio hn hpre he) (ro_rel I (by omega) hR0))
  rintro a' w' ⟨ρ', v', rfl, h2, h3, h4⟩
  have hle : Le ρ' (cut ρ (d.lvl (j + 1))) := by
    intro b x hb
    rcases h4 b (by rw [hb]; simp) with h | h
    · cases hq : cut ρ (d.lvl j) b with
      | none => exact (h hq).elim
      | some y => have := h3.le b y hq; rw [hb] at this; cases this; rw [hlv]; exact hq
    · simp at h; omega
  exact ⟨T, ρ, step_still I hj hio hn hpre hT hlv (fun h => by rw [hm] at h; cases h) (fun c hc => h3.kept.block c hc (fun b B d hb hro => by rw [(roOnly_some hb).2] at hro; cases hro)) ⟨h3.kept.os, h3.kept.tape, h3.kept.output, h3.kept.size⟩ (h2.mono hle)⟩
theorem cut_if {ρ' : Ren} {n m k : Nat} (hk : m ≤ k ∨ k ≤ n) (b : Nat) : cut (fun b => if n ≤ b ∧ b < m then ρ' b else ρ b) k b = if m ≤ k ∧ n ≤ b ∧ b < m then ρ' b else cut ρ k b := by
  unfold cut
  show (if b < k then (if n ≤ b ∧ b < m then ρ' b else ρ b) else none) = _
  by_cases h : b < k
  · rw [if_pos h, if_pos h]
    by_cases c : n ≤ b ∧ b < m
    · rw [if_pos c]
      rcases hk with hk | hk
      · rw [if_pos ⟨hk, c⟩]
      · omega
    · rw [if_neg c, if_neg (fun x => c x.2)]
  · rw [if_neg h, if_neg h]
    split
    · omega
    · rfl
theorem step_mem (I : d.Inv w0 ρ0 l T ρ a w) (hj : ops[j]? = some o) (hio : ios[j]? = some io) (hn : lst l j = false) (hpre : ∀ i, bound bf i j = true → lst l i = true) (hm : isMem io.op = true) (hb : isBar io.op = false)
    (hE : Eff P o io.op (d.Lf j) (d.Gf 0) (d.Gf j) (d.Mf j) (d.Vf j) (d.Gf (j + 1))) {e : Env} (he : ∀ t, eget e t = d.Lf j t) (Q : Exit → Act → World → Prop) :
    o.wp P a w (fun a' w' => ∃ T' ρ', d.Inv w0 ρ0 (l.setIfInBounds j true) T' ρ' a' w') Q := by
  have hlt : j < ops.size := (Array.getElem?_eq_some_iff.1 hj).1
  have hls := lst_set (l := l) (j := j) (by rw [I.size]; exact hlt)
  have hTn := I.tn
  obtain ⟨nb, hG, hnb, hst⟩ := hE.2.2.1 hb hm
  have hlv : d.lvl (j + 1) = d.lvl j + nb.length := by unfold lvl; rw [hG]; simp
  have hjT : j < T := by
    have := mem_le I hj hio hm hpre
    rcases Nat.lt_or_eq_of_le this with h | h
    · exact h
    · subst h
      rcases I.t3 with h | ⟨ioT, h1, h2⟩
      · omega
      · rw [hio] at h1; cases h1
        rw [h2] at hb; cases hb
  have hnobar : ∀ i, j ≤ i → i < T → d.Ext i := fun i h1 h2 => d.ext_of (by omega) (.inl (no_bar I hj hio hn hm h1 h2))
  have hR := I.lev j (by omega) (fun q hq hqT => by
    rcases Nat.lt_or_ge q j with h | h
    · exact h
    · exact (no_bar I hj hio hn hm h hqT hq).elim)
  have hseg : ∀ b, b < d.lvl j → hblk (d.Gf T) b = hblk (d.Gf j) b := d.seg (by omega) hTn (fun i h1 h2 => hnobar i h1 h2)
  have hcond : if isCal io.op then (∀ b B, hblk (hideH (d.Gf j) (d.Mf j) (hidOf io.op)) b = some B → cutH (d.hpS (lst l) T) (d.lvl j) b = some B) else Agree (cut ρ (d.lvl j)) (cutH (d.hpS (lst l) T) (d.lvl j)) (d.Gf j) := by
    cases hcal : isCal io.op with
    | true =>
      rw [if_pos rfl]
      intro b B hB
      have hB0 := hideH_sub _ _ _ b B hB
      have hbl : b < d.lvl j := by
        rcases Nat.lt_or_ge b (d.lvl j) with h | h
        · exact h
        · rw [hblk_ge h] at hB0; cases hB0
      have hv : d.Vis (lst l) b := by
        rcases d.find_lvl (show j ≤ ops.size by omega) hbl with h | ⟨i, k1, k2, k3⟩
        · exact .inl h
        · refine .inr ⟨i, by omega, ?_, k2, k3⟩
          obtain ⟨_, o', io', g1, g2, g3, g4, g5, g6⟩ := d.grow_mem (show i < ops.size by omega) (by omega)
          rcases g5 with g5 | g5
          · exact I.t1 i (by omega) ⟨io', g2, g5⟩
          · rcases d.cfl i j o' io' o io k1 g1 g2 hj hio with h | ⟨_, _, _, h⟩
            · exact hpre i h
            · have hel := h g5 hcal
              have := hideH_none (d.Mf j) (d.made_mem (by omega) i o' io' k1 g1 g2 g3 g5) k2 k3 (hidOf io.op) (d.Gf j) (by simpa using hel)
              rw [this] at hB; cases hB
      unfold cutH hpS
      rw [if_pos hbl, if_pos hv, hseg b hbl]; exact hB0
    | false =>
      rw [if_neg (by simp)]
      intro b hbl hne
      have hbl : b < d.lvl j := hbl
      have hv : d.Vis (lst l) b := I.dom b (by unfold cut at hne; rwa [if_pos hbl] at hne)
      unfold cutH hpS
      rw [if_pos hbl, if_pos hv, hseg b hbl]
  refine Oper.wp_mono ?_ (hst e (cut ρ (d.lvl j)) (cutH (d.hpS (lst l) T) (d.lvl j)) w a Q he hR hcond (cut_dom _ _) (reads_of I hj hio hn hpre he))
  rintro a' w' ⟨ρ', v', rfl, h2, h3, h4⟩
  change Goes _ _ _ _ (hpu _ (d.lvl j) nb) _ at h3
  change ∀ b, ρ' b ≠ none → cut ρ (d.lvl j) b ≠ none ∨ (d.lvl j ≤ b ∧ b < d.lvl j + nb.length) at h4
  have hfree : ∀ b, d.lvl j ≤ b → b < d.lvl j + nb.length → ρ b = none := by
    intro b k1 k2
    cases hq : ρ b with
    | none => rfl
    | some x => exact (not_vis I hj hn k1 (by omega) (I.dom b (by rw [hq]; simp))).elim
  have hrr : ∀ b B, cutH (d.hpS (lst l) T) (d.lvl j) b = some B → cut ρ (d.lvl j) b ≠ none := by
    intro b B hB
    obtain ⟨_, _, _, _, _, _, e1, _⟩ := hR.blk b B hB
    rw [e1]; simp
  have hrn : ∀ b, d.lvl j ≤ b → cutH (d.hpS (lst l) T) (d.lvl j) b = none := fun b hb => by unfold cutH; rw [if_neg (by omega)]
  have hsub : ∀ b B, cutH (d.hpS (lst l) T) (d.lvl j) b = some B → d.hpS (lst l) T b = some B := fun b B hB => by
    unfold cutH at hB; split at hB
    · exact hB
    · cases hB
  have gw := Goes.merge I.goes.rel (cut_le ρ (d.lvl j)) hsub hrn h3 h4 hfree hrr
  have hhp : d.hpS (lst (l.setIfInBounds j true)) T = hpu (d.hpS (lst l) T) (d.lvl j) nb := by
    funext b
    unfold hpu
    by_cases c : d.lvl j ≤ b ∧ b < d.lvl j + nb.length
    · rw [if_pos c]
      have hv : d.Vis (lst (l.setIfInBounds j true)) b := (vis_next I hj b).2 (.inr ⟨c.1, by omega⟩)
      unfold hpS
      rw [if_pos hv, d.seg (show j + 1 ≤ T by omega) hTn (fun i h1 h2 => hnobar i (by omega) h2) b (by omega), hG, hblk_append]
      unfold hpu
      have hc : (d.Gf j).length ≤ b ∧ b < (d.Gf j).length + nb.length := c
      rw [if_pos hc]; rfl
    · rw [if_neg c]
      unfold hpS
      by_cases hv : d.Vis (lst l) b
      · rw [if_pos hv, if_pos ((vis_next I hj b).2 (.inl hv))]
      · rw [if_neg hv, if_neg]
        intro hv'
        rcases (vis_next I hj b).1 hv' with h | h
        · exact hv h
        · omega
  have hp := put_parts I o.dst v'
  refine ⟨T, fun b => if d.lvl j ≤ b ∧ b < d.lvl j + nb.length then ρ' b else ρ b, by simp [I.size], low_next I hj hpre, I.tn, fun i k1 k2 => ?_, fun i k1 k2 k3 => ?_, I.t3, fun b hb => ?_, fun b hb0 hb => ?_, I.dom0, fun i k1 k2 => ?_, ?_, ?_, hp.1, hp.2⟩
  · rw [hls]; split
    · rfl
    · exact I.t1 i k1 k2
  · rw [hls, if_neg (by omega)]; exact I.t2 i k1 k2 k3
  · rw [vis_next I hj]
    by_cases c : d.lvl j ≤ b ∧ b < d.lvl j + nb.length
    · exact .inr ⟨c.1, by omega⟩
    · simp only [if_neg c] at hb
      exact .inl (I.dom b hb)
  · have hz := d.lvl_mono (Nat.zero_le j) (by omega)
    have c : ¬ (d.lvl j ≤ b ∧ b < d.lvl j + nb.length) := by omega
    simp only [if_neg c] at hb
    exact I.old b hb0 hb
  · rw [hhp]
    have hin : i ≤ ops.size := by omega
    rcases Nat.lt_or_ge j i with hji | hji
    · have hlm := d.lvl_mono (show j + 1 ≤ i by omega) hin
      have hlm0 := d.lvl_mono (show j ≤ i by omega) hin
      have g := Goes.merge (I.lev i k1 k2) (cut_mono (Le.refl ρ) hlm0) (fun b B hB => by
        unfold cutH at hB ⊢; split at hB
        · rw [if_pos (by omega)]; exact hB
        · cases hB) hrn h3 h4 (fun b q1 q2 => by unfold cut; rw [hfree b q1 q2]; split <;> rfl) hrr
      have e1 : cut (fun b => if d.lvl j ≤ b ∧ b < d.lvl j + nb.length then ρ' b else ρ b) (d.lvl i) = fun b => if d.lvl j ≤ b ∧ b < d.lvl j + nb.length then ρ' b else cut ρ (d.lvl i) b := by
        funext b
        rw [cut_if (.inl (by omega))]
        by_cases c : d.lvl j ≤ b ∧ b < d.lvl j + nb.length
        · rw [if_pos c, if_pos ⟨by omega, c⟩]
        · rw [if_neg c, if_neg (fun x => c x.2)]
      have e2 : cutH (hpu (d.hpS (lst l) T) (d.lvl j) nb) (d.lvl i) = hpu (cutH (d.hpS (lst l) T) (d.lvl i)) (d.lvl j) nb := by
        funext b
        unfold cutH hpu
        by_cases c : d.lvl j ≤ b ∧ b < d.lvl j + nb.length
        · rw [if_pos c, if_pos c, if_pos (by omega)]
        · rw [if_neg c, if_neg c]
      rw [e1, e2]; exact g.rel
    · have hlm := d.lvl_mono hji (by omega)
      have e1 : cut (fun b => if d.lvl j ≤ b ∧ b < d.lvl j + nb.length then ρ' b else ρ b) (d.lvl i) = cut ρ (d.lvl i) := by
        funext b
        show (if b < d.lvl i then (if d.lvl j ≤ b ∧ b < d.lvl j + nb.length then ρ' b else ρ b) else none) = if b < d.lvl i then ρ b else none
        by_cases c : b < d.lvl i
        · have : ¬ (d.lvl j ≤ b ∧ b < d.lvl j + nb.length) := by omega
          rw [if_pos c, if_pos c, if_neg this]
        · rw [if_neg c, if_neg c]
      have e2 : cutH (hpu (d.hpS (lst l) T) (d.lvl j) nb) (d.lvl i) = cutH (d.hpS (lst l) T) (d.lvl i) := by
        funext b
        unfold cutH hpu
        split
        · rw [if_neg (by omega)]
        · rfl
      rw [e1, e2]
      refine Rel.behind (I.lev i k1 k2) (cut_mono (Le.refl ρ) hlm) h3 fun b B hB => ?_
      unfold cutH at hB
      split at hB
      · rename_i hbi
        have c1 : ¬ (d.lvl j ≤ b ∧ b < d.lvl j + nb.length) := by omega
        have c2 : b < d.lvl j := by omega
        unfold hpu cutH
        rw [if_neg c1, if_pos c2]; exact hB
      · cases hB
  · rw [hhp]; exact I.goes.trans gw
  · refine env_next I hj hio hn gw.le (h2.mono fun b x hb => ?_)
    rcases h4 b (by rw [hb]; simp) with h | h
    · cases hq : cut ρ (d.lvl j) b with
      | none => exact (h hq).elim
      | some y =>
        have := h3.le b y hq
        rw [hb] at this; cases this
        unfold cut at hq
        split at hq
        · rename_i c
          have c1 : ¬ (d.lvl j ≤ b ∧ b < d.lvl j + nb.length) := by omega
          have c2 : b < d.lvl (j + 1) := by omega
          show (if b < d.lvl (j + 1) then (if d.lvl j ≤ b ∧ b < d.lvl j + nb.length then ρ' b else ρ b) else none) = _
          rw [if_pos c2, if_neg c1]; exact hq
        · cases hq
    · have c2 : b < d.lvl (j + 1) := by omega
      show (if b < d.lvl (j + 1) then (if d.lvl j ≤ b ∧ b < d.lvl j + nb.length then ρ' b else ρ b) else none) = _
      rw [if_pos c2, if_pos h]; exact hb
/-- What is known at a barrier that stands next. -/
theorem at_bar (I : d.Inv w0 ρ0 l T ρ a w) (hj : ops[T]? = some o) (hio : ios[T]? = some io) (hb : isBar io.op = true) (hn : lst l T = false) (hpre : ∀ i, bound bf i T = true → lst l i = true) :
    (∀ b, b < d.lvl T → d.Vis (lst l) b) ∧ d.hpS (lst l) T = hblk (d.Gf T) ∧ Dom ρ (d.lvl T) := by
  have hlt : T < ops.size := (Array.getElem?_eq_some_iff.1 hj).1
  have hall : ∀ b, b < d.lvl T → d.Vis (lst l) b := by
    intro b hbl
    rcases d.find_lvl (Nat.le_of_lt hlt) hbl with h | ⟨i, k1, k2, k3⟩
    · exact .inl h
    · refine .inr ⟨i, by omega, ?_, k2, k3⟩
      obtain ⟨⟨io1, q1, q2⟩, o', io', g1, g2, _⟩ := d.grow_mem (show i < ops.size by omega) (by omega)
      rw [g2] at q1; cases q1
      rcases d.cfl i T o' _ o io k1 g1 g2 hj hio with h | ⟨_, _, h, _⟩
      · exact hpre i h
      · rw [q2, hb] at h; cases h
  refine ⟨hall, ?_, fun b hbl => ?_⟩
  · funext b
    unfold hpS
    split
    · rfl
    · rename_i hv
      rcases Nat.lt_or_ge b (d.lvl T) with h | h
      · exact (hv (hall b h)).elim
      · exact (hblk_ge h).symm
  · cases hq : ρ b with
    | none => rfl
    | some x =>
      rcases I.dom b (by rw [hq]; simp) with h | ⟨i, h1, h2, h3, h4⟩
      · have := d.lvl_mono (Nat.zero_le T) (by omega); omega
      · rcases Nat.lt_or_ge i T with h | h
        · have := d.lvl_mono (show i + 1 ≤ T by omega) (by omega); omega
        · have := I.t2 i h h1 (d.grow_mem h1 (by omega)).1
          rw [h2] at this; cases this
theorem step_bar (I : d.Inv w0 ρ0 l T ρ a w) (hj : ops[T]? = some o) (hio : ios[T]? = some io) (hb : isBar io.op = true) (hn : lst l T = false) (hpre : ∀ i, bound bf i T = true → lst l i = true) {ρ' : Ren} {w' : World} {v' : Value}
    (g : Goes ρ (hblk (d.Gf T)) w ρ' (hblk (d.Gf (T + 1))) w') (gr : Grow ρ ρ' (d.lvl T) (d.lvl (T + 1))) (hv : V0 ρ' (d.Vf T) v') :
    ∃ T' ρ', d.Inv w0 ρ0 (l.setIfInBounds T true) T' ρ' (a.put o.dst v') w' := by
  have hlt : T < ops.size := (Array.getElem?_eq_some_iff.1 hj).1
  have hls := lst_set (l := l) (j := T) (by rw [I.size]; exact hlt)
  obtain ⟨hall, hhp, hdom⟩ := at_bar I hj hio hb hn hpre
  obtain ⟨T', t1, t2, t3, t4⟩ := next_bar (ios := ios) (n := ops.size) _ T hlt rfl
  have hlm := d.lvl_succ hlt
  have hdom' : Dom ρ' (d.lvl (T + 1)) := gr.dom hlm hdom
  have hhp' : d.hpS (lst (l.setIfInBounds T true)) T' = hblk (d.Gf (T + 1)) := by
    funext b
    unfold hpS
    rcases Nat.lt_or_ge b (d.lvl (T + 1)) with h | h
    · have hv : d.Vis (lst (l.setIfInBounds T true)) b := by
        rw [vis_next I hj]
        rcases Nat.lt_or_ge b (d.lvl T) with h1 | h1
        · exact .inl (hall b h1)
        · exact .inr ⟨h1, h⟩
      rw [if_pos hv]
      exact d.seg (show T + 1 ≤ T' by omega) t2 (fun i h1 h2 => d.ext_of (by omega) (.inl (t4 i (by omega) h2))) b h
    · rw [hblk_ge h, if_neg]
      intro hv
      rcases (vis_next I hj b).1 hv with (h1 | ⟨i, h1, h2, h3, h4⟩) | h1
      · have := d.lvl_mono (Nat.zero_le (T + 1)) (by omega); omega
      · rcases Nat.lt_or_ge i T with c | c
        · have := d.lvl_mono (show i + 1 ≤ T + 1 by omega) (by omega); omega
        · have := I.t2 i c h1 (d.grow_mem h1 (by omega)).1
          rw [h2] at this; cases this
      · omega
  have hp := put_parts I o.dst v'
  refine ⟨T', ρ', by simp [I.size], low_next I hj hpre, t2, fun i k1 k2 => ?_, fun i k1 k2 k3 => ?_, t3, fun b hb' => ?_, fun b hb0 hb' => ?_, I.dom0, fun i k1 k2 => ?_, ?_, ?_, hp.1, hp.2⟩
  · rw [hls]; split
    · rfl
    · rename_i c
      rcases Nat.lt_or_ge T i with h | h
      · exact (t4 i h k1 k2).elim
      · exact I.t1 i (by omega) k2
  · rw [hls, if_neg (by omega)]; exact I.t2 i (by omega) k2 k3
  · rw [vis_next I hj]
    rcases gr b hb' with h | h
    · exact .inl (I.dom b h)
    · exact .inr h
  · rcases gr b hb' with h | h
    · exact I.old b hb0 h
    · have hz := d.lvl_mono (Nat.zero_le T) (by omega)
      omega
  · have hTi : T < i := k2 T ⟨io, hio, hb⟩ t1
    have hlm2 := d.lvl_mono (show T + 1 ≤ i by omega) (by omega)
    have e1 : cut ρ' (d.lvl i) = ρ' := cut_all fun b hb => hdom' b (by omega)
    have e2 : cutH (d.hpS (lst (l.setIfInBounds T true)) T') (d.lvl i) = hblk (d.Gf (T + 1)) := by
      rw [hhp']; funext b; unfold cutH
      split
      · rfl
      · exact (hblk_ge (show (d.Gf (T + 1)).length ≤ b by have : d.lvl (T + 1) = (d.Gf (T + 1)).length := rfl; omega)).symm
    rw [e1, e2]; exact g.rel
  · rw [hhp']
    have := I.goes
    rw [hhp] at this
    exact this.trans g
  · exact env_next I hj hio hn g.le (by rw [cut_all hdom']; exact hv)
theorem wanted_of (I : d.Inv w0 ρ0 l T ρ a w) (hj : ops[j]? = some o) (hio : ios[j]? = some io) (hn : lst l j = false) (hpre : ∀ i, bound bf i j = true → lst l i = true) {t : Bool} (h : gex io (d.Lf j) = some t) : Region.wanted o (yielded ops a.tmps) = t := by
  rcases d.grd j o io hj hio with ⟨h1, h2⟩ | ⟨k, g, want, h1, h2, h3⟩
  · simp [gex, h2] at h
    subst h
    simp [Region.wanted, h1]
  · have hmem : g ∈ namesOf o io := by
      unfold namesOf
      refine List.mem_append_right _ ?_
      rw [h2]; simp
    obtain ⟨e1, _⟩ := env_read I hj hio hn hpre (.inl hmem) (fun _ => hn)
    have hv := (I.env g).mono (cut_le _ _)
    rw [e1] at hv
    have hER : EnvRel ρ [(g, d.Lf j g)] a 0 := by
      refine ⟨I.dfr, Nat.zero_le _, fun t => ?_⟩
      simp only [eget]
      by_cases c : g = t
      · subst c
        rw [Nat.beq_refl, cond_true]; exact hv
      · rw [beqF c, cond_false]; exact .inl rfl
    have heg : eget [(g, d.Lf j g)] g = d.Lf j g := by simp only [eget]; rw [Nat.beq_refl, cond_true]
    unfold gex at h
    rw [h2] at h
    simp only at h
    split at h
    · rename_i b hb
      have := guard_bool hER h3 (heg.trans hb)
      simp only [Region.wanted, h1, this]
      cases h
      cases b <;> cases want <;> rfl
    · rename_i cs hb
      cases hc : Nat.beq cs.toList.length 1 with
      | false => rw [hc] at h; cases h
      | true =>
        rw [hc, cond_true] at h
        cases h
        have := guard_skip hER h3 (heg.trans hb) hc
        simp [Region.wanted, h1, this]
    · cases h
theorem step_any (hR0 : Rel ρ0 (hblk (d.Gf 0)) w0) (I : d.Inv w0 ρ0 l T ρ a w) (hj : ops[j]? = some o) (hio : ios[j]? = some io) (hn : lst l j = false) (hpre : ∀ i, bound bf i j = true → lst l i = true) (Q : Exit → Act → World → Prop) :
    wpOp P ops Q j (fun a' w' => ∃ T' ρ', d.Inv w0 ρ0 (l.setIfInBounds j true) T' ρ' a' w') a w := by
  have hlt : j < ops.size := (Array.getElem?_eq_some_iff.1 hj).1
  unfold wpOp
  rw [hj]
  simp only
  rcases (d.step j o io hj hio).2 with ⟨e0, hE, _, e, he⟩ | ⟨e0, e1, e2, e3⟩
  · rw [if_pos (wanted_of I hj hio hn hpre e0)]
    left
    cases hm : isMem io.op with
    | false => exact step_pure hR0 I hj hio hn hpre hm hE he Q
    | true =>
      cases hb : isBar io.op with
      | false => exact step_mem I hj hio hn hpre hm hb hE he Q
      | true =>
        have hT : j = T := by
          by_cases c : j = T
          · exact c
          · have := not_bar I hj hio hn hpre c
            rw [hb] at this; cases this
        subst hT
        obtain ⟨_, hhp, hdom⟩ := at_bar I hj hio hb hn hpre
        have hR := I.goes.rel
        rw [hhp] at hR
        refine Oper.wp_mono ?_ (hE.2.1 hb e ρ w a Q he hR hdom (fun x hx t ht => (reads_of I hj hio hn hpre he x hx t ht).mono (cut_le _ _)))
        rintro a' w' ⟨ρ', v', rfl, h2, h3, h4⟩
        exact step_bar I hj hio hb hn hpre h3 h4 h2
  · rw [if_neg (by rw [wanted_of I hj hio hn hpre e0]; simp)]
    have hlv : d.lvl (j + 1) = d.lvl j := by unfold lvl; rw [e2]
    by_cases c : j = T
    · subst c
      rcases I.t3 with h | ⟨ioT, h1, h2⟩
      · omega
      · rw [hio] at h1; cases h1
        obtain ⟨_, hhp, hdom⟩ := at_bar I hj hio h2 hn hpre
        have hR := I.goes.rel
        rw [hhp] at hR
        exact step_bar I hj hio h2 hn hpre (ρ' := ρ) (w' := w) (v' := undef) (by rw [e2]; exact .refl hR) (.refl _ _ _) (by rw [e1]; exact .inr (.inl ⟨rfl, rfl⟩))
    · refine ⟨T, ρ, step_still I hj hio hn hpre c hlv (fun hm => ?_) (fun _ _ => rfl) ⟨rfl, rfl, rfl, Nat.le_refl _⟩ (by rw [e1]; exact .inr (.inl ⟨rfl, rfl⟩))⟩
      have := mem_le I hj hio hm hpre
      omega
end step
end DR
theorem DR.ready_nil {ops : Array Oper} {ios : List IOper} {bf : List (List Nat)} (d : DR P nt ops ios bf) {l : Array Bool} (hs : l.size = ops.size) : Region.ready .any ops l = [] ↔ ∀ i, i < ops.size → DR.lst l i = true := by
  constructor
  · intro h i
    induction i using Nat.strongRecOn with
    | _ i ih =>
      intro hi
      cases hl : DR.lst l i with
      | true => rfl
      | false =>
        obtain ⟨o, io, h1, h2⟩ := d.both hi
        have : i ∈ Region.ready .any ops l := by
          refine mem_ready.2 ⟨?_, o, h1, fun e he hb => ?_⟩
          · unfold DR.lst at hl
            simp [hs, hi] at hl ⊢
            exact hl
          · have := d.bef i o h1 e (by simpa using he) hb
            exact ih e.on this (by omega)
        rw [h] at this; cases this
  · intro h
    cases hr : Region.ready .any ops l with
    | nil => rfl
    | cons i rs =>
      exfalso
      have hi : i ∈ Region.ready .any ops l := by rw [hr]; exact List.mem_cons_self
      obtain ⟨h0, o, h1, _⟩ := mem_ready.1 hi
      have hlt : i < ops.size := (Array.getElem?_eq_some_iff.1 h1).1
      have := h i hlt
      unfold DR.lst at this
      simp [hs, hlt] at this h0
      rw [h0] at this; cases this
theorem count_put : ∀ (l : List Bool) (j : Nat), l[j]? = some false → (l.set j true).count false + 1 = l.count false := by
  intro l
  induction l with
  | nil => intro j h; simp at h
  | cons x l ih =>
    intro j h
    cases j with
    | zero => simp at h; subst h; simp
    | succ j =>
      simp at h
      have := ih j h
      cases x <;> simp <;> omega
theorem DR.any_ok {ops : Array Oper} {ios : List IOper} {bf : List (List Nat)} {d : DR P nt ops ios bf} {w0 : World} {ρ0 : Ren} (hR0 : Rel ρ0 (hblk (d.Gf 0)) w0) (Q : Exit → Act → World → Prop)
    (hQ : ∀ l T ρ a w, d.Inv w0 ρ0 l T ρ a w → (∀ i, i < ops.size → DR.lst l i = true) → Q .normal a w) :
    ∀ (fuel : Nat) (l : Array Bool) (T : Nat) (ρ : Ren) (a : Act) (w : World), d.Inv w0 ρ0 l T ρ a w → l.toList.count false ≤ fuel → wpAny P .any ops Q fuel l a w := by
  intro fuel
  induction fuel with
  | zero =>
    intro l T ρ a w I hc
    have hall : ∀ i, i < ops.size → DR.lst l i = true := by
      intro i hi
      have hi' : i < l.toList.length := by simpa [I.size] using hi
      cases hl : l.toList[i] with
      | true => simpa [DR.lst, I.size, hi] using hl
      | false =>
        have hmem : false ∈ l.toList := by rw [← hl]; exact List.getElem_mem hi'
        have := List.count_pos_iff.2 hmem
        omega
    exact ⟨(d.ready_nil I.size).2 hall, hQ l T ρ a w I hall⟩
  | succ fuel ih =>
    intro l T ρ a w I hc
    refine ⟨fun h => hQ l T ρ a w I ((d.ready_nil I.size).1 h), fun j hj => ?_⟩
    obtain ⟨h0, o, h1, h2⟩ := mem_ready.1 hj
    have hlt : j < ops.size := (Array.getElem?_eq_some_iff.1 h1).1
    obtain ⟨io, hio⟩ := d.io_of h1
    have hlt' : j < l.size := by rw [I.size]; exact hlt
    have hfalse : l[j] = false := by simpa [hlt'] using h0
    have hn : DR.lst l j = false := by simp [DR.lst, hlt', hfalse]
    have hpre : ∀ i, bound bf i j = true → DR.lst l i = true := fun i hb => DR.pre_of (d := d) I.low h1 (fun e he hb => h2 e (by simpa using he) hb) hb
    refine wpOp_mono ?_ (DR.step_any hR0 I h1 hio hn hpre Q)
    rintro a' w' ⟨T', ρ', I'⟩
    refine ih _ T' ρ' a' w' I' ?_
    have := count_put l.toList j (by simp [hlt', hfalse])
    simp only [Array.toList_setIfInBounds]
    omega
theorem first_bar {ios : List IOper} : ∀ (m : Nat), (∀ i, i < m → ¬ DR.isB (ios := ios) i) ∨ ∃ T, T < m ∧ DR.isB (ios := ios) T ∧ ∀ i, i < T → ¬ DR.isB (ios := ios) i := by
  intro m
  induction m with
  | zero => exact .inl (fun i h => by omega)
  | succ m ih =>
    rcases ih with ih | ⟨T, h1, h2⟩
    · by_cases c : DR.isB (ios := ios) m
      · exact .inr ⟨m, by omega, c, ih⟩
      · refine .inl fun i h => ?_
        by_cases e : i = m
        · subst e; exact c
        · exact ih i (by omega)
    · exact .inr ⟨T, by omega, h2⟩
theorem DR.start {ops : Array Oper} {ios : List IOper} {bf : List (List Nat)} (d : DR P nt ops ios bf) {e : Env} {ρ : Ren} {w : World} {a : Act} (hL : ∀ t, d.Lf 0 t = eget e t) (hR : Rel ρ (hblk (d.Gf 0)) w) (hD : Dom ρ (d.lvl 0)) (hE : EnvRel ρ e a nt) :
    ∃ T, d.Inv w ρ (Array.replicate ops.size false) T ρ a { w with drawn := w.drawn + 1 } := by
  have hl : ∀ i, DR.lst (Array.replicate ops.size false) i = false := by
    intro i; unfold DR.lst
    by_cases c : i < ops.size
    · simp [c]
    · simp [c]
  obtain ⟨T, h1, h2, h3⟩ : ∃ T, T ≤ ops.size ∧ (T = ops.size ∨ DR.isB (ios := ios) T) ∧ ∀ i, i < T → ¬ DR.isB (ios := ios) i := by
    rcases first_bar (ios := ios) ops.size with h | ⟨T, k1, k2, k3⟩
    · exact ⟨ops.size, Nat.le_refl _, .inl rfl, h⟩
    · exact ⟨T, by omega, .inr k2, k3⟩
  have hcut : ∀ i, i ≤ ops.size → cut ρ (d.lvl i) = ρ := fun i hi => cut_all fun b hb => hD b (Nat.le_trans (d.lvl_mono (Nat.zero_le i) hi) hb)
  have hhp : d.hpS (DR.lst (Array.replicate ops.size false)) T = hblk (d.Gf 0) := by
    funext b
    unfold DR.hpS
    rcases Nat.lt_or_ge b (d.lvl 0) with h | h
    · have hv : d.Vis (DR.lst (Array.replicate ops.size false)) b := .inl h
      rw [if_pos hv]
      exact d.seg (Nat.zero_le T) h1 (fun i _ q => d.ext_of (by omega) (.inl (h3 i q))) b h
    · rw [DR.hblk_ge h, if_neg]
      rintro (h | ⟨i, _, k, _⟩)
      · omega
      · rw [hl] at k; cases k
  refine ⟨T, by simp, fun i j _ _ h => (by rw [hl] at h; cases h), h1, fun i k1 k2 => (h3 i k1 k2).elim, fun i _ _ _ => hl i, h2, fun b hb => .inl ?_, fun b _ hb => hb, hD, fun i k1 _ => ?_, ?_, fun t => ?_, hE.1, hE.2.1⟩
  · rcases Nat.lt_or_ge b (d.lvl 0) with h | h
    · exact h
    · exact (hb (hD b h)).elim
  · rw [hcut i (by omega), hhp]
    have e2 : cutH (hblk (d.Gf 0)) (d.lvl i) = hblk (d.Gf 0) := by
      funext b; unfold cutH
      split
      · rfl
      · rename_i c
        have := d.lvl_mono (Nat.zero_le i) (by omega)
        exact (DR.hblk_ge (show (d.Gf 0).length ≤ b by have : d.lvl 0 = (d.Gf 0).length := rfl; omega)).symm
    rw [e2]; exact hR.anyHeap rfl
  · rw [hhp]; exact (Goes.refl hR).drew _
  · have hc := d.cur_high (DR.lst (Array.replicate ops.size false)) (t := t) (Nat.zero_le ops.size) (fun i _ _ _ => hl i)
    rw [hc]
    show V0 (cut ρ (d.lvl 0)) (d.Lf 0 t) _
    rw [hcut 0 (Nat.zero_le _), hL]; exact hE.2.2 t
theorem DR.finish {ops : Array Oper} {ios : List IOper} {bf : List (List Nat)} {d : DR P nt ops ios bf} {e' : Env} {w0 w : World} {ρ0 ρ : Ren} {l : Array Bool} {T : Nat} {a : Act} (I : d.Inv w0 ρ0 l T ρ a w) (hall : ∀ i, i < ops.size → DR.lst l i = true) (hL : ∀ t, eget e' t = d.Lf ops.size t) :
    EnvRel ρ e' a nt ∧ Goes ρ0 (hblk (d.Gf 0)) w0 ρ (hblk (d.Gf ops.size)) w ∧ Grow ρ0 ρ (d.lvl 0) (d.lvl ops.size) := by
  have hTn := I.tn
  have hT : T = ops.size := by
    rcases I.t3 with h | ⟨io, h1, h2⟩
    · exact h
    · rcases Nat.lt_or_eq_of_le hTn with h | h
      · have := I.t2 T (Nat.le_refl _) h ⟨io, h1, DR.bm h2⟩
        rw [hall T h] at this; cases this
      · exact h
  subst hT
  have hhp : d.hpS (DR.lst l) ops.size = hblk (d.Gf ops.size) := by
    funext b
    unfold DR.hpS
    split
    · rfl
    · rename_i hv
      rcases Nat.lt_or_ge b (d.lvl ops.size) with h | h
      · refine (hv ?_).elim
        rcases d.find_lvl (Nat.le_refl _) h with h | ⟨i, k1, k2⟩
        · exact .inl h
        · exact .inr ⟨i, k1, hall i k1, k2⟩
      · exact (DR.hblk_ge h).symm
  refine ⟨⟨I.dfr, I.big, fun t => ?_⟩, by have := I.goes; rwa [hhp] at this, fun b hb => ?_⟩
  · have h1 := I.env t
    rw [(d.cur_low (DR.lst l) (Nat.le_refl _) (fun i hi _ => hall i hi)).1] at h1
    rw [hL]; exact h1.mono (cut_le _ _)
  · rcases Nat.lt_or_ge b (d.lvl 0) with h | h
    · exact .inl (I.old b h hb)
    · rcases I.dom b hb with h2 | ⟨i, h1, _, h3, h4⟩
      · omega
      · have := d.lvl_mono (show i + 1 ≤ ops.size by omega) (Nat.le_refl _)
        exact .inr (by omega)
theorem trOs_get {all : List Oper} {draw : Bool} {bf : List (List Nat)} : ∀ (os : List Oper) (ios : List IOper) (i : Nat), trOs P an nt all draw bf i os = some ios → ∀ (j : Nat) (o : Oper) (io : IOper), os[j]? = some o → ios[j]? = some io → trO P an nt all draw bf (i + j) o = some io := by
  intro os
  induction os with
  | nil => intro ios i _ j o io h; simp at h
  | cons x os ih =>
    intro ios i htr j o io h1 h2
    simp only [trOs] at htr
    split at htr
    · rename_i y ys k1 k2
      cases htr
      cases j with
      | zero => simp at h1 h2; subst h1 h2; exact k1
      | succ j =>
        simp at h1 h2
        have := ih ys (i + 1) k2 j o io h1 h2
        rwa [show i + 1 + j = i + (j + 1) from by omega] at this
    · cases htr
theorem draw_ok (hC : CSound P C) {id : Nat} {ops : Array Oper} {ios : List IOper} {bf : List (List Nat)} (htr : trReg P an nt bf ops true = some ios) {e : Env} {H : Heap} {K : Env → Heap → Option R} {r : R} (h : evOps C H ios 0 [] e H K = some r) :
    ∃ e' H', TriC P nt (.region id ops true) e H .normal e' H' ∧ K e' H' = some r := by
  unfold trReg at htr
  rw [cond_true] at htr
  split at htr
  · rename_i ios' htO
    cases hc : ancOk ops.toList bf && drawOk bf (indexed 0 (ops.toList.zip ios')) && P.follows .mixedOrders with
    | false => rw [hc] at htr; cases htr
    | true =>
      rw [hc, cond_true] at htr
      cases htr
      simp only [Bool.and_eq_true] at hc
      obtain ⟨⟨hanc, hdr⟩, hfol⟩ := hc
      obtain ⟨Lf, Gf, Vf, Mf, e', g1, g2, g3, g4, g5, g6, g7⟩ := run_of hC H ops.toList ios 0 htO [] e H K r h
      have hget : ∀ {j : Nat} {o : Oper}, ops[j]? = some o → ops.toList[j]? = some o := fun h => by rw [Array.getElem?_toList]; exact h
      have htO' : ∀ (j : Nat) (o : Oper) (io : IOper), ops[j]? = some o → ios[j]? = some io → trO P an nt ops.toList true bf j o = some io := fun j o io h1 h2 => by
        have := trOs_get ops.toList ios 0 htO j o io (hget h1) h2
        rwa [Nat.zero_add] at this
      have hA : ∀ (j : Nat) (o : Oper), ops[j]? = some o → ((o.after.toList.all fun e => !(Region.binds .any e) || Nat.blt e.on j) && (bf.getD j []).all fun i => o.after.toList.any fun e => Region.binds .any e && Nat.blt e.on j && (Nat.beq e.on i || bound bf i e.on)) = true := fun j o h1 => by
        have hm := mem_indexed ops.toList 0 j o (hget h1)
        rw [Nat.zero_add] at hm
        exact List.all_eq_true.1 hanc _ hm
      have hO : ∀ (j : Nat) (o : Oper) (io : IOper), ops[j]? = some o → ios[j]? = some io → (io.dst = o.dst ∧ dstOk nt o.dst = true) ∧ ((o.guard = none ∧ io.guard = none) ∨ ∃ k g want, o.guard = some (k, want) ∧ io.guard = some (g, want) ∧ dstOf ops.toList k = some g) := fun j o io h1 h2 => by
        have ht := htO' j o io h1 h2
        unfold trO at ht
        split at ht
        · rename_i op _
          cases hd : dstOk nt o.dst && !(isLdr op) with
          | false => rw [hd] at ht; cases ht
          | true =>
            rw [hd, cond_true] at ht
            rw [Bool.and_eq_true] at hd
            split at ht
            · rename_i hg; cases ht; exact ⟨⟨rfl, hd.1⟩, .inl ⟨hg, rfl⟩⟩
            · rename_i k want hg
              split at ht
              · rename_i g hk; cases ht; exact ⟨⟨rfl, hd.1⟩, .inr ⟨k, g, want, hg, rfl, hk⟩⟩
              · cases ht
        · cases ht
      obtain ⟨d, hd1, hd2⟩ : ∃ d : DR P nt ops ios bf, d.Lf = Lf ∧ d.Gf = Gf := by
        refine ⟨⟨Lf, Gf, Vf, Mf, by simpa using g6, fun j o io h1 h2 => by have := g7 j o io (hget h1) h2; rwa [Nat.zero_add, ← g2] at this, g3, fun j o io h1 h2 => (hO j o io h1 h2).1, fun j o io h1 h2 => (hO j o io h1 h2).2, fun j o h1 e he hb => ?_, fun j o h1 i hi => ?_, fun i j o io o' io' hij h1 h2 h3 h4 => ?_⟩, rfl, rfl⟩
        · have := hA j o h1
          rw [Bool.and_eq_true] at this
          have := List.all_eq_true.1 this.1 e he
          rw [hb] at this
          simpa [Nat.blt_eq] using this
        · have := hA j o h1
          rw [Bool.and_eq_true] at this
          have hi' : i ∈ bf.getD j [] := by unfold bound at hi; simpa using hi
          have := List.all_eq_true.1 this.2 i hi'
          obtain ⟨e, he, hx⟩ := List.any_eq_true.1 this
          simp only [Bool.and_eq_true, Bool.or_eq_true, Nat.blt_eq] at hx
          refine ⟨e, he, hx.1.1, hx.1.2, hx.2.imp (fun h => Nat.eq_of_beq_eq_true h) (fun h => h)⟩
        · have hz : ∀ {j : Nat} {o : Oper} {io : IOper}, ops[j]? = some o → ios[j]? = some io → (j, o, io) ∈ indexed 0 (ops.toList.zip ios) := fun {j o io} h1 h2 => by
            have hm := mem_indexed (ops.toList.zip ios) 0 j (o, io) (by rw [List.getElem?_zip_eq_some]; exact ⟨hget h1, h2⟩)
            rwa [Nat.zero_add] at hm
          have := List.all_eq_true.1 (List.all_eq_true.1 hdr _ (hz h1 h2)) _ (hz h3 h4)
          have hlt : Nat.blt i j = true := by rw [Nat.blt_eq]; exact hij
          simp only [hlt, Bool.not_true, Bool.false_or, Bool.or_eq_true, Bool.not_eq_true'] at this
          refine this.imp (fun h => h) fun h => ?_
          simp only [Bool.or_eq_false_iff] at h
          refine ⟨h.1.1.1, h.1.1.2, h.1.2, fun c1 c2 => ?_⟩
          have h5 := h.2
          rw [c1, c2] at h5
          simpa using h5
      have hlen : ops.toList.length = ops.size := by simp
      rw [hlen] at g4 g5
      subst hd1 hd2
      refine ⟨e', d.Gf ops.size, ⟨?_, fun ρ w a hR hD hE => ?_⟩, g5⟩
      · have := d.lvl_mono (Nat.zero_le ops.size) (Nat.le_refl _)
        unfold DR.lvl at this
        rwa [g2] at this
      · have hR' : Rel ρ (hblk (d.Gf 0)) w := by rw [g2]; exact hR
        have hD' : Dom ρ (d.lvl 0) := by unfold DR.lvl; rw [g2]; exact hD
        obtain ⟨T, I⟩ := d.start g1 hR' hD' hE
        refine wp_region_any hfol (DR.any_ok (d := d) hR' _ (fun l T' ρ' a' w' I' hall => ?_) ops.size _ T ρ a _ I (by simp))
        obtain ⟨q1, q2, q3⟩ := DR.finish I' hall g4
        rw [g2] at q2
        unfold DR.lvl at q3
        rw [g2] at q3
        exact ⟨trivial, ρ', q1, q2, q3⟩
  · cases htr
end Go.Proofs.Ytjajknghcbpblaa.FW
