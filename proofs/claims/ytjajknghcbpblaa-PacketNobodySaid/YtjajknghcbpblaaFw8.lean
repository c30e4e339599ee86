/- Each operation of the own machine stands for the model's: writes and calls. -/
import Derived.Test.YtjajknghcbpblaaFw7
set_option linter.unusedVariables false
set_option linter.unusedSimpArgs false
namespace Go.Proofs.Ytjajknghcbpblaa.FW
variable {P : Program} {R : Type}
/-- The operation's effect, asked in the world's whole heap. -/
def SP (o : Oper) (a : Act) (ρ : Ren) (H : Heap) (w : World) (v : Value) (H' : Heap) : Act → World → Prop := fun a' w' =>
  ∃ ρ' v', a' = a.put o.dst v' ∧ V0 ρ' v v' ∧ Goes ρ (hblk H) w ρ' (hblk H') w' ∧ Grow ρ ρ' H.length H'.length
def SeqOK (P : Program) (o : Oper) (e : Env) (H : Heap) (K : Value → Heap → Option R) (r : R) : Prop :=
  ∃ v H', K v H' = some r ∧ H.length ≤ H'.length ∧ ∀ (ρ : Ren) (w : World) (a : Act) (Q : Exit → Act → World → Prop),
    Rel ρ (hblk H) w → Dom ρ H.length → Reads ρ e a o → o.wp P a w (SP o a ρ H w v H') Q
theorem hblk_append (H nb : Heap) : hblk (H ++ nb) = hpu (hblk H) H.length nb := by
  funext b
  unfold hpu
  rw [hblk_get, List.getElem?_append]
  split
  · rename_i h
    rw [if_neg (by omega), hblk_get]
  · rename_i h
    split
    · rw [hblk_get]
    · rename_i h2
      rw [List.getElem?_eq_none (by omega), hblk_get, List.getElem?_eq_none (by omega)]
theorem Oper.wp_mono' {o : Oper} {a : Act} {w : World} {Q : Exit → Act → World → Prop} {K K' : Act → World → Prop} (h : ∀ a w, K a w → K' a w) (hh : o.wp P a w K Q) : o.wp P a w K' Q := Oper.wp_mono h hh
theorem LocalOK.seq {o : Oper} {e : Env} {H : Heap} {K : Value → Heap → Option R} {r : R} {cr : Bool} (h : LocalOK P o e H K r cr) : SeqOK P o e H K r := by
  obtain ⟨v, nb, h1, _, h3⟩ := h
  refine ⟨v, H ++ nb, h1, by simp, fun ρ w a Q hR hD hE => ?_⟩
  refine Oper.wp_mono ?_ (h3 ρ (hblk H) w a Q hR (fun b _ _ => rfl) (fun b hb _ => hD b hb) hE)
  rintro a' w' ⟨ρ', v', e1, e2, e3, e4⟩
  exact ⟨ρ', v', e1, e2, by rw [hblk_append]; exact e3, fun b hb => by simpa using e4 b hb⟩
theorem hset_get (H : Heap) (n : Nat) (y : Option Blk) (b : Nat) : hblk (hset H n y) b = if b = n ∧ n < H.length then y else hblk H b := by
  induction H generalizing n b with
  | nil => simp [hset, hblk]
  | cons x l ih =>
    cases n with
    | zero => cases b with
      | zero => simp [hset, hblk]
      | succ b => simp [hset, hblk]
    | succ n => cases b with
      | zero => simp [hset, hblk]
      | succ b => simp [hset, hblk, ih]
theorem hset_length (H : Heap) (n : Nat) (y : Option Blk) : (hset H n y).length = H.length := by
  induction H generalizing n with
  | nil => rfl
  | cons x l ih => cases n with
    | zero => rfl
    | succ n => simp [hset, ih]
theorem setRow_os (w : World) (g : Nat) (cs : Array Value) : (w.setRow g cs).os = w.os ∧ (w.setRow g cs).tape = w.tape ∧ (w.setRow g cs).output = w.output ∧ (w.setRow g cs).heap.size = w.heap.size := by
  simp [World.setRow]
theorem oneC_rel {ρ : Ren} {v v' : Value} (h : VRel ρ v v') (k : oneC v = true) : v'.oneCell' = true := by
  cases h <;> first | rfl | (simp [oneC] at k)
theorem oneCs_rel {ρ : Ren} {vs vs' : List Value} (h : LRel ρ vs vs') (k : vs.all oneC = true) : ∀ v ∈ vs', v.oneCell' = true := by
  intro v hv
  obtain ⟨i, hi⟩ := List.mem_iff_getElem?.1 hv
  have hlt : i < vs.length := by rw [h.1]; exact (List.getElem?_eq_some_iff.1 hi).1
  exact oneC_rel (h.2 i _ v (List.getElem?_eq_getElem hlt) hi) (List.all_eq_true.1 k _ (List.getElem_mem hlt))
/-- Cells of a writable block are written (by the renaming 'ρ', a new or the old one; the block's abstract cells may become more). -/
theorem write_goes {ρ : Ren} {hp hp' : Nat → Option Blk} {w : World} (hR : Rel ρ hp w) {b b' m o bz n' : Nat} {B : Blk} {arr : Array Value} {el : TypeId} {cells' : List Value} (hb : hp b = some B) (hro : B.ro = false) (hρ : ρ b = some (b', 0, m))
    (hw : w.heap[b']? = some (.cells arr el (0, 0))) {vs' : List Value} (hle : o + vs'.length ≤ arr.size)
    {ρ' : Ren} (hle' : Le ρ ρ') (hn' : ρ' n' = some (b', 0, m)) (hm : m * bz ≤ arr.size) (hone : cells'.all oneC = true)
    (hp1 : ∀ c, hp' c = if c = n' then some ⟨cells', false, bz⟩ else if c = b then none else hp c) (hdead : ∀ c B', c ≠ n' → hp' c = some B' → ∀ x, ρ' c = some x → ρ c = some x)
    (hc : ∀ (i : Nat) v, cells'[i]? = some v → ∃ v', (arr.toList.take o ++ vs' ++ arr.toList.drop (o + vs'.length))[i]? = some v' ∧ VRel ρ v v') :
    Goes ρ hp w ρ' hp' (w.setRow b' (arr.toList.take o ++ vs' ++ arr.toList.drop (o + vs'.length)).toArray) := by
  obtain ⟨s1, s2, s3, s4⟩ := setRow_os w b' (arr.toList.take o ++ vs' ++ arr.toList.drop (o + vs'.length)).toArray
  have hsz : ((arr.toList.take o ++ vs' ++ arr.toList.drop (o + vs'.length)).toArray).size = arr.size := by simp; omega
  have hother : ∀ c B', c ≠ n' → hp' c = some B' → c ≠ b ∧ hp c = some B' := by
    intro c B' hne h
    rw [hp1, if_neg hne] at h
    by_cases cb : c = b
    · rw [if_pos cb] at h; cases h
    · rw [if_neg cb] at h; exact ⟨cb, h⟩
  refine ⟨hle', ⟨fun c B' hc' => ?_, fun b1 B1 b2 B2 x1 d1 x2 d2 k1 k2 hne hro1 e1 e2 => ?_⟩, ⟨s1, s2, s3, by rw [s4]; exact Nat.le_refl _, fun c hc' hno => ?_⟩, fun c B' x d hc' hx => ?_⟩
  · by_cases e : c = n'
    · subst e
      rw [hp1, if_pos rfl] at hc'; cases hc'
      refine ⟨b', 0, m, _, el, (0, 0), hn', setRow_heap w b' _ _ el _ hw, fun i v hv => ?_, fun _ => ⟨rfl, rfl, by rw [hsz]; exact hm⟩, hone⟩
      obtain ⟨v', g1, g2⟩ := hc i v hv
      exact ⟨v', by simpa using g1, g2.mono hle'⟩
    · obtain ⟨cb, h⟩ := hother c B' e hc'
      obtain ⟨x, d, m', arr', el', fr, e1, e2, e3, e4⟩ := hR.blk c B' h
      have hx : x ≠ b' := fun he => hR.inj b B c B' b' 0 x d hb h (fun h => cb h.symm) hro ⟨_, hρ⟩ ⟨_, e1⟩ he.symm
      refine ⟨x, d, m', arr', el', fr, hle' _ _ e1, by rw [setRow_other w b' x _ hx]; exact e2, fun i v hv => ?_, e4⟩
      obtain ⟨v', g1, g2⟩ := e3 i v hv
      exact ⟨v', g1, g2.mono hle'⟩
  · have back : ∀ c B' x d, c ≠ n' → hp' c = some B' → At ρ' c x d → At ρ c x d := fun c B' x d hne h ⟨m2, hx⟩ => ⟨m2, hdead c B' hne h _ hx⟩
    by_cases c1 : b1 = n'
    · subst c1
      have c2 : b2 ≠ b1 := fun h => hne h.symm
      obtain ⟨cb, h⟩ := hother b2 B2 c2 k2
      have := hR.inj b B b2 B2 b' 0 x2 d2 hb h (fun h => cb h.symm) hro ⟨_, hρ⟩ (back _ _ _ _ c2 k2 e2)
      obtain ⟨rfl, _⟩ := At.uniq ⟨_, hn'⟩ e1
      exact this
    · obtain ⟨cb1, h1⟩ := hother b1 B1 c1 k1
      by_cases c2 : b2 = n'
      · subst c2
        obtain ⟨rfl, _⟩ := At.uniq ⟨_, hn'⟩ e2
        exact hR.inj b1 B1 b B x1 d1 b' 0 h1 hb cb1 hro1 (back _ _ _ _ c1 k1 e1) ⟨_, hρ⟩
      · obtain ⟨cb2, h2⟩ := hother b2 B2 c2 k2
        exact hR.inj b1 B1 b2 B2 x1 d1 x2 d2 h1 h2 hne hro1 (back _ _ _ _ c1 k1 e1) (back _ _ _ _ c2 k2 e2)
  · exact setRow_other w b' c _ (fun h => hno b B 0 hb hro (by rw [h]; exact ⟨_, hρ⟩))
  · by_cases e : c = n'
    · subst e
      obtain ⟨rfl, _⟩ := At.uniq ⟨_, hn'⟩ hx
      exact .inr (.inr ⟨b, B, 0, hb, hro, _, hρ⟩)
    · obtain ⟨cb, h⟩ := hother c B' e hc'
      obtain ⟨m2, hx⟩ := hx
      exact .inr (.inl ⟨B', h, ⟨m2, hdead c B' e hc' _ hx⟩, id⟩)
/-- The parts of a live, writable block. -/
theorem live_parts {ρ : Ren} {hp : Nat → Option Blk} {w : World} (hR : Rel ρ hp w) {b b' d : Nat} {B : Blk} (hb : hp b = some B) (hro : B.ro = false) (hρ : At ρ b b' d) :
    ∃ m arr el, d = 0 ∧ ρ b = some (b', 0, m) ∧ w.heap[b']? = some (.cells arr el (0, 0)) ∧ LRel ρ B.cells (arr.toList.take B.cells.length) ∧ B.cells.length ≤ arr.size ∧ m * B.sz ≤ arr.size ∧ B.cells.all oneC = true := by
  obtain ⟨b2, d2, m2, arr, el, fr, e1, e2, e3, e4, e5⟩ := hR.blk b B hb
  obtain ⟨m, hρ⟩ := hρ
  rw [hρ] at e1; cases e1
  obtain ⟨rfl, rfl, hm⟩ := e4 hro
  have hsize : B.cells.length ≤ arr.size := by
    cases h : B.cells.length with
    | zero => omega
    | succ n =>
      obtain ⟨v', h2, _⟩ := e3 n _ (List.getElem?_eq_getElem (by omega))
      have := (Array.getElem?_eq_some_iff.1 h2).1
      omega
  refine ⟨_, arr, el, rfl, hρ, e2, ⟨by simp; omega, fun i x y hx hy => ?_⟩, hsize, hm, e5⟩
  obtain ⟨v', g1, g2⟩ := e3 i x hx
  have hi : i < B.cells.length := (List.getElem?_eq_some_iff.1 hx).1
  rw [List.getElem?_take, if_pos hi] at hy
  have : arr.toList[i]? = some v' := by simpa using g1
  rw [this] at hy; cases hy
  exact g2
theorem store_goes {ρ : Ren} {H : Heap} {w : World} (hR : Rel ρ (hblk H) w) {b b' d o : Nat} {B : Blk} (hb : hblk H b = some B) (hro : B.ro = false) (hρ : At ρ b b' d) {vs vs' : List Value} (hv : LRel ρ vs vs') (hle : o + vs.length ≤ B.cells.length)
    (h0 : vs.all oneC = true) : d = 0 ∧ ∃ w', (storeCells ⟨b', o, none⟩ vs').run P w = .ok () w' ∧ Goes ρ (hblk H) w ρ (hblk (hset H b (some ⟨splice B.cells o vs, false, B.sz⟩))) w' := by
  obtain ⟨m, arr, el, rfl, h2, h3, h4, h5, h6, h7⟩ := live_parts hR hb hro hρ
  have hl := hv.1
  have h1 := oneCs_rel hv h0
  refine ⟨rfl, _, by simpa using run_storeCells_at P b' o el vs' 0 arr w h3 (by omega) h1, write_goes hR hb hro h2 h3 (o := o) (vs' := vs') (by omega) (Le.refl ρ) (n' := b) (bz := B.sz) h2 h6 (by unfold splice; rw [List.all_append, List.all_append, h0, Bool.and_true, Bool.and_eq_true]; exact ⟨List.all_eq_true.2 fun v hv => List.all_eq_true.1 h7 v (List.mem_of_mem_take hv), List.all_eq_true.2 fun v hv => List.all_eq_true.1 h7 v (List.mem_of_mem_drop hv)⟩) (cells' := splice B.cells o vs) (fun c => ?_) (fun _ _ _ _ _ h => h) (fun i v hi => ?_)⟩
  · rw [hset_get]
    have := hblk_lt hb
    by_cases e : c = b
    · subst e; simp [this]
    · simp [e]
  · have k1 : LRel ρ (splice B.cells o vs) (splice (arr.toList.take B.cells.length) o vs') := splice_rel h4 hv o
    obtain ⟨y, g1, g2⟩ := k1.get hi
    refine ⟨y, ?_, g2⟩
    have hi2 : i < B.cells.length := by have := (List.getElem?_eq_some_iff.1 hi).1; rwa [splice_length hle] at this
    unfold splice at g1
    rw [List.append_assoc, List.getElem?_append] at g1
    rw [List.append_assoc, List.getElem?_append]
    rw [List.take_take] at g1
    have e1 : min o B.cells.length = o := by omega
    rw [e1] at g1
    split at g1
    · rename_i hh; rw [if_pos hh]; exact g1
    · rename_i hh
      rw [if_neg hh]
      rw [List.getElem?_append] at g1 ⊢
      split at g1
      · rename_i hh2; rw [if_pos hh2]; exact g1
      · rename_i hh2
        rw [if_neg hh2]
        rw [List.getElem?_drop] at g1 ⊢
        rw [List.getElem?_take] at g1
        split at g1
        · exact g1
        · cases g1
section seq
variable {o : Oper} {e : Env} {H : Heap} {K : Value → Heap → Option R} {r : R} {C : Tab R} {made : List (Nat × Nat × Nat)}
theorem wp_of_skip {a : Act} {w : World} {next : Act → World → Prop} {Q : Exit → Act → World → Prop} {w' : World}
    (h : (execOp a.eval o).run P w = .ok .skip w') (hn : next (a.put o.dst undef) w') : o.wp P a w next Q := by
  unfold Oper.wp; rw [h]; exact hn
theorem set_splice {l : List Value} {i : Nat} (v : Value) (h : i < l.length) : l.set i v = splice l i [v] := by
  apply List.ext_getElem?
  intro j
  unfold splice
  rw [List.append_assoc, List.getElem?_append]
  have : (List.take i l).length = i := by simp; omega
  rw [this]
  by_cases c : j < i
  · rw [if_pos c, List.getElem?_take, if_pos c, List.getElem?_set_ne (by omega)]
  · rw [if_neg c]
    by_cases d : j = i
    · subst d; rw [List.getElem?_set_self h]; simp
    · rw [List.getElem?_set_ne (by omega), List.getElem?_append_right (by simp; omega), List.getElem?_drop]
      congr 1
      simp
      omega
theorem hst_ok {p : Option Addr} {vs : List Value} {K' : Heap → Option R} (h : hst H p vs K' = some r) : ∃ b o' s B, p = some ⟨b, o', s⟩ ∧ hblk H b = some B ∧ B.ro = false ∧ o' + vs.length ≤ B.cells.length ∧ vs.all oneC = true ∧ K' (hset H b (some ⟨splice B.cells o' vs, false, B.sz⟩)) = some r := by
  unfold hst at h
  split at h
  · rename_i b o' s
    split at h
    · rename_i B hB
      cases hro : B.ro with
      | true => rw [hro] at h; cases h
      | false =>
        rw [hro, cond_false] at h
        split at h
        · rename_i hle
          cases hone : vs.all oneC with
          | false => rw [hone] at h; cases h
          | true => rw [hone, cond_true] at h; exact ⟨b, o', s, B, rfl, hB, hro, hle, rfl, h⟩
        · cases h
    · cases h
  · cases h
theorem hst1_ok {p : Option Addr} {v : Value} {K' : Heap → Option R} (h : hst1 H p v K' = some r) : ∃ b o' s B, p = some ⟨b, o', s⟩ ∧ hblk H b = some B ∧ B.ro = false ∧ o' < B.cells.length ∧ K' (hset H b (some ⟨splice B.cells o' [v], false, B.sz⟩)) = some r := by
  unfold hst1 at h
  split at h
  · rename_i b o' s
    split at h
    · rename_i B hB
      cases hro : B.ro with
      | true => rw [hro] at h; cases h
      | false =>
        rw [hro, cond_false] at h
        split at h
        · rename_i hle
          rw [set_splice v hle] at h
          exact ⟨b, o', s, B, rfl, hB, hro, hle, h⟩
        · cases h
    · cases h
  · cases h
theorem ok_st {u : TypeId} {x v : Operand} {x' v' : X} {n : Nat} (hs : sz P u = some n) (ho : o.op = .store u x v) (hx : trX x = some x') (hv : trX v = some v') (hr : evOp C made (.st n x' v') e H K = some r) : SeqOK P o e H K r := by
  simp only [evOp] at hr
  have main : ∀ (cs : List Value) (b o' : Nat) (sp : Option Nat) (B : Blk), gx e x' = .pointer (some ⟨b, o', sp⟩) → hblk H b = some B → B.ro = false → o' + cs.length ≤ B.cells.length → cs.all oneC = true → cs.length = n →
      K undef (hset H b (some ⟨splice B.cells o' cs, false, B.sz⟩)) = some r → (∀ (ρ : Ren) (av : Value), V0 ρ (gx e v') av → LRel ρ cs av.cells.toList) → SeqOK P o e H K r := by
    intro cs b o' sp B e1 hB hro hle hone hn hk hcs
    refine ⟨undef, _, hk, by rw [hset_length]; exact Nat.le_refl _, fun ρ w a Q hR hD hE => ?_⟩
    have q1 := vx hE hx (by simp [ho, Op.operands])
    have q2 := vx hE hv (by simp [ho, Op.operands])
    rw [e1] at q1
    obtain ⟨rfl, b', d, h1, h2⟩ := q1.ptr
    have h3 := hcs ρ _ q2
    obtain ⟨rfl, w', h4, h5⟩ := store_goes (P := P) hR hB hro h1 h3 hle hone
    have h6 : (a.eval v).cells.size = n := by have := h3.1; simp at this; omega
    refine wp_of_skip (w' := w') ?_ ⟨ρ, undef, rfl, .inl rfl, h5, .refl _ _ _⟩
    simp [execOp, ho, h2, Instr.storeAt, Instr.sureAddr, storeVar, sz_info hs, h6, h4]
  split at hr
  · rename_i p e1
    split at hr
    · rename_i cs e2
      cases hn : Nat.beq cs.toList.length n with
      | false => rw [hn] at hr; cases hr
      | true =>
        rw [hn, cond_true] at hr
        obtain ⟨b, o', s, B, rfl, hB, hro, hle, hone, hk⟩ := hst_ok hr
        refine main cs.toList b o' s B e1 hB hro hle hone (Nat.eq_of_beq_eq_true hn) hk fun ρ av hav => ?_
        rw [e2] at hav
        obtain ⟨ds, rfl, h⟩ := hav.agg
        exact h
    · cases hr
    · rename_i u' hna hnt
      cases hn : Nat.beq n 1 with
      | false => rw [hn] at hr; cases hr
      | true =>
        rw [hn, cond_true] at hr
        obtain ⟨b, o', s, B, rfl, hB, hro, hle, hk⟩ := hst1_ok hr
        have h1 := Nat.eq_of_beq_eq_true hn
        have hcell : ∀ v : Value, (∀ cs, v ≠ .agg cs) → v.cells = #[v] := by intro v h; cases v <;> first | rfl | exact (h _ rfl).elim
        have hok : okv (gx e v') = true := by
          cases hg : gx e v' <;> first | rfl | (exact (hnt _ hg).elim)
        refine main [gx e v'] b o' s B e1 hB hro hle ?_ h1.symm hk fun ρ av hav => ?_
        · simp
          cases hg : gx e v' <;> first | rfl | (exact (hna _ hg).elim) | (exact (hnt _ hg).elim)
        · have hv2 := hav.rel hok
          have := cells_rel hv2
          rwa [hcell _ (fun cs h => hna cs h)] at this
  · cases hr
end seq
end Go.Proofs.Ytjajknghcbpblaa.FW
