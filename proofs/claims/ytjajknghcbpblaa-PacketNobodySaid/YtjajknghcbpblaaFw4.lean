/- Each operation of the own machine stands for the model's: reads, addresses, parts, arithmetic of slices. -/
import Derived.Test.YtjajknghcbpblaaFw3
set_option linter.unusedVariables false
set_option linter.unusedSimpArgs false
namespace Go.Proofs.Ytjajknghcbpblaa.FW
variable {P : Program} {R : Type}
theorem hblk_get (H : Heap) (b : Nat) : hblk H b = (H[b]?).join := by
  induction H generalizing b with
  | nil => simp [hblk]
  | cons x l ih => cases b with
    | zero => simp [hblk]
    | succ b => simp [hblk, ih]
theorem hblk_lt {H : Heap} {b : Nat} {B : Blk} (h : hblk H b = some B) : b < H.length := by
  rw [hblk_get] at h
  cases e : H[b]? with
  | none => rw [e] at h; simp at h
  | some x => exact (List.getElem?_eq_some_iff.1 e).1
theorem hcell_blk {H : Heap} {b o : Nat} {v : Value} (h : hcell H b o = some v) : ∃ B, hblk H b = some B ∧ B.cells[o]? = some v := by
  unfold hcell at h
  split at h
  · exact ⟨_, ‹_›, h⟩
  · cases h
theorem cell_rel {ρ : Ren} {hp : Nat → Option Blk} {w : World} {H : Heap} (hr : Rel ρ hp w) (ha : Agree ρ hp H) {b o b' d : Nat} {v : Value} (hb : At ρ b b' d) (hc : hcell H b o = some v) :
    ∃ v', w.cell? ⟨b', d + o, none⟩ = some v' ∧ VRel ρ v v' := by
  obtain ⟨B, h1, h2⟩ := hcell_blk hc
  exact hr.cell ((ha b (hblk_lt h1) hb.ne).trans h1) h2 hb
theorem ldS_ok {s : SK} {H : Heap} {a : Option Addr} {K : Value → Option R} {r : R} (h : ldS s H a K = some r) : ∃ b o sp v, a = some ⟨b, o, sp⟩ ∧ hcell H b o = some v ∧ K v = some r := by
  cases s with
  | int k =>
    simp only [ldS, ldI] at h
    split at h
    · rename_i b o sp
      split at h
      · rename_i k' n hc
        cases e : ikeq k k' with
        | false => rw [e] at h; cases h
        | true => rw [e, cond_true] at h; have := ikeq_eq e; subst this; exact ⟨b, o, sp, _, rfl, hc, h⟩
      · cases h
    · cases h
  | _ =>
    simp only [ldS, ldB, ldP, ldL, ldT, ldV] at h
    split at h
    · rename_i b o sp
      split at h
      · rename_i hc
        exact ⟨b, o, sp, _, rfl, hc, h⟩
      · cases h
    · cases h
theorem ldN_ok {H : Heap} {b o : Nat} {sp : Option Nat} : ∀ {ks : List SK} {i : Nat} {K : List Value → Option R} {r : R}, ldN ks H (some ⟨b, o, sp⟩) i K = some r →
    ∃ vs : List Value, vs.length = ks.length ∧ (∀ (j : Nat) v, vs[j]? = some v → hcell H b (o + (i + j)) = some v) ∧ K vs = some r := by
  intro ks
  induction ks with
  | nil => intro i K r h; exact ⟨[], rfl, fun j v hv => by simp at hv, h⟩
  | cons s ks ih =>
    intro i K r h
    simp only [ldN] at h
    obtain ⟨b2, o2, sp2, v, e, hc, hk⟩ := ldS_ok h
    simp only [pad] at e; cases e
    obtain ⟨vs, h1, h2, h3⟩ := ih hk
    refine ⟨v :: vs, by simp [h1], fun j u hu => ?_, h3⟩
    cases j with
    | zero => simp at hu; subst hu; simpa using hc
    | succ j => simp at hu; have := h2 j u hu; rwa [show i + 1 + j = i + (j + 1) from by omega] at this
theorem asS_ok {s : SK} {v : Value} {K : Value → Option R} {r : R} (h : asS s v K = some r) : K v = some r := by
  cases s <;> cases v <;> simp only [asS] at h <;> first | exact h | cases h | skip
  rename_i k k' n
  cases e : ikeq k k' with
  | false => rw [e] at h; cases h
  | true => rw [e, cond_true] at h; have := ikeq_eq e; subst this; exact h
theorem asN_ok : ∀ {ks : List SK} {vs : List Value} {K : List Value → Option R} {r : R}, asN ks vs K = some r → K vs = some r := by
  intro ks
  induction ks with
  | nil => intro vs K r h; cases vs with
    | nil => exact h
    | cons v vs => cases h
  | cons s ks ih => intro vs K r h; cases vs with
    | nil => cases h
    | cons v vs => simp only [asN] at h; exact ih (K := fun vs => K (v :: vs)) (asS_ok h)
theorem asK_ok {k : VK} {v : Value} {K : Value → Option R} {r : R} (h : asK k v K = some r) : K v = some r := by
  cases k with
  | sc s => exact asS_ok h
  | agg ks => cases v <;> simp only [asK] at h <;> first | (cases h; done) | exact asN_ok h
theorem asT_ok : ∀ {ks : List VK} {vs : List Value} {K : List Value → Option R} {r : R}, asT ks vs K = some r → K vs = some r := by
  intro ks
  induction ks with
  | nil => intro vs K r h; cases vs with
    | nil => exact h
    | cons v vs => cases h
  | cons s ks ih => intro vs K r h; cases vs with
    | nil => cases h
    | cons v vs => simp only [asT] at h; exact ih (K := fun vs => K (v :: vs)) (asK_ok h)
theorem add_eq (b o n : Nat) : (⟨b, o, none⟩ : Addr).add n = ⟨b, o + n, none⟩ := by
  unfold Addr.add; split
  · rename_i h; subst h; rfl
  · rfl
theorem sz_info {t : TypeId} {n : Nat} (h : sz P t = some n) (w : World) : (sizeOf t).run P w = .ok n w := by
  unfold sz at h
  cases e : P.info? t with
  | none => rw [e] at h; cases h
  | some i => rw [e] at h; simp at h; simp [sizeOf, typeInfo, e, h]
theorem isAgg_run {t : TypeId} {d : TypeDesc} (h : P.underlying t = some d) (w : World) : (isAgg t).run P w = .ok (isAg P t) w := by
  unfold isAgg isAg
  rw [h]
  cases d <;> simp [run_underlying h]
section pure
variable {o : Oper} {e : Env} {H : Heap} {K : Value → Heap → Option R} {r : R} {cr : Bool} {C : Tab R} {made : List (Nat × Nat × Nat)}
/-- A variable, read. -/
theorem load_rel {u : TypeId} {n : Nat} {d : TypeDesc} {p : Option Addr} {K' : Value → Option R} (hu : P.underlying u = some d) (hs : sz P u = some n) (hk : isAg P u = true → (kinds P 6 u).length = n ∧ n ≠ 0)
    (hr : (match vkOf P u with
      | .sc s => ldS s H p K'
      | .agg ks => ldN ks H p 0 fun vs => K' (.agg ⟨vs⟩)) = some r) :
    ∃ v, K' v = some r ∧ ∀ (ρ : Ren) (hp : Nat → Option Blk) (w : World) (av : Value), Rel ρ hp w → Agree ρ hp H → V0 ρ (.pointer p) av → ∃ a' v', av = .pointer (some a') ∧ VRel ρ v v' ∧ (loadVar u a').run P w = .ok v' w := by
  cases hA : isAg P u with
  | false =>
    simp only [vkOf, hA, cond_false] at hr
    obtain ⟨b, o', sp, v, e2, hc, hk⟩ := ldS_ok hr
    subst e2
    refine ⟨v, hk, fun ρ hp w av hR hG q1 => ?_⟩
    obtain ⟨rfl, b', d', h1, h2⟩ := q1.ptr
    obtain ⟨v', h3, h4⟩ := cell_rel hR hG h1 hc
    exact ⟨_, v', h2, h4, by simp [loadVar, isAgg_run hu, hA, h3]⟩
  | true =>
    obtain ⟨hk1, hk2⟩ := hk hA
    simp only [vkOf, hA, cond_true] at hr
    cases p with
    | none =>
      cases hks : kinds P 6 u with
      | nil => rw [hks] at hk1; simp at hk1; exact (hk2 hk1.symm).elim
      | cons s ks => rw [hks] at hr; simp only [ldN] at hr; obtain ⟨_, _, _, _, h, _⟩ := ldS_ok hr; simp [pad] at h
    | some p =>
      obtain ⟨b, o', sp⟩ := p
      obtain ⟨vs, hl, hc, hk⟩ := ldN_ok hr
      refine ⟨.agg ⟨vs⟩, hk, fun ρ hp w av hR hG q1 => ?_⟩
      obtain ⟨rfl, b', d', h1, h2⟩ := q1.ptr
      have hcs : ∀ j, j < vs.length → ∃ v', w.cell? ⟨b', d' + o' + j, none⟩ = some v' ∧ VRel ρ (vs.getD j undef) v' := fun j hj => by
        have := cell_rel hR hG h1 (hc j _ (List.getElem?_eq_getElem hj))
        simp at this
        rw [show d' + (o' + j) = d' + o' + j from by omega] at this
        obtain ⟨v', a1, a2⟩ := this
        exact ⟨v', a1, by simpa [List.getD_eq_getElem?_getD, hj] using a2⟩
      let us : List Value := (List.range vs.length).map fun j => (w.cell? ⟨b', d' + o' + j, none⟩).getD undef
      have hus : ∀ (j : Nat) v, us[j]? = some v → w.cell? ((⟨b', d' + o', none⟩ : Addr).add j) = some v := fun j v hv => by
        have hj : j < vs.length := by have := (List.getElem?_eq_some_iff.1 hv).1; simpa [us] using this
        obtain ⟨v', a1, _⟩ := hcs j hj
        rw [add_eq]
        simp [us, hj, a1] at hv
        rw [a1, hv]
      have hlen : us.length = n := by simp [us, hl, hk1]
      refine ⟨⟨b', d' + o', none⟩, .agg ⟨us⟩, h2, .agg (by simp [us]) fun j y z hy hz => ?_, ?_⟩
      · have hj : j < vs.length := (List.getElem?_eq_some_iff.1 hy).1
        obtain ⟨v', a1, a2⟩ := hcs j hj
        simp [us, hj, a1] at hz
        subst hz
        have : vs.getD j undef = y := by simp [List.getD_eq_getElem?_getD, hy]
        rwa [this] at a2
      · have := run_loadCells_list (P := P) (w := w) ⟨b', d' + o', none⟩ us hus
        rw [hlen] at this
        simp [loadVar, isAgg_run hu, hA, sz_info hs, this]
theorem ok_ld {u : TypeId} {x : Operand} {x' : X} {n : Nat} {d : TypeDesc} (hu : P.underlying u = some d) (hs : sz P u = some n) (hk : isAg P u = true → (kinds P 6 u).length = n ∧ n ≠ 0)
    (ho : o.op = .load u x) (hx : trX x = some x') (hr : evOp C made (.ld (vkOf P u) x') e H K = some r) : LocalOK P o e H K r cr := by
  simp only [evOp] at hr
  split at hr
  · rename_i p e1
    obtain ⟨v, h1, h2⟩ := load_rel (K' := fun v => K v H) hu hs hk hr
    refine pure_ok v h1 fun ρ hp w a hR hG hE => ?_
    have q1 := vx hE hx (by simp [ho, Op.operands])
    rw [e1] at q1
    obtain ⟨a', v', g1, g2, g3⟩ := h2 ρ hp w _ hR hG q1
    exact ⟨v', .of g2, by simp [execOp, ho, g1, Instr.loadAt, Instr.sureAddr, g3]⟩
  · cases hr
theorem ok_nilc {x : Operand} {x' : X} (ho : o.op = .nilCheck x) (hx : trX x = some x') (hr : evOp C made (.nilc x') e H K = some r) : LocalOK P o e H K r cr := by
  simp only [evOp] at hr
  split at hr
  · rename_i p e1
    cases p with
    | none => cases hr
    | some p =>
      refine pure_ok _ hr fun ρ hp w a _ _ hE => ?_
      have q1 := vx hE hx (by simp [ho, Op.operands])
      rw [e1] at q1
      obtain ⟨b, o', s⟩ := p
      obtain ⟨_, b', d', _, h⟩ := q1.ptr
      exact ⟨_, q1, by simp [execOp, ho, h]⟩
  · rename_i f fs cs e1
    refine pure_ok _ hr fun ρ hp w a _ _ hE => ?_
    have q1 := vx hE hx (by simp [ho, Op.operands])
    rw [e1] at q1
    obtain ⟨xs, ys, h, _⟩ := q1.func
    exact ⟨_, q1, by simp [execOp, ho, h]⟩
  · cases hr
theorem ok_fad {u : TypeId} {x : Operand} {x' : X} {f n : Nat} {fs : Array Field} {fd : Field} (hu : P.underlying u = some (.struct fs)) (hf : fs[f]? = some fd) (hs : sz P fd.type = some n) (hn : n ≠ 0)
    (ho : o.op = .fieldAddr u x f) (hx : trX x = some x') (hr : evOp C made (.fad fd.offset x') e H K = some r) : LocalOK P o e H K r cr := by
  simp only [evOp] at hr
  split at hr
  · rename_i p e1
    cases p with
    | none => cases hr
    | some p =>
      obtain ⟨b, o', s⟩ := p
      refine pure_ok _ hr fun ρ hp w a _ _ hE => ?_
      have q1 := vx hE hx (by simp [ho, Op.operands])
      rw [e1] at q1
      obtain ⟨_, b', d', h1, h⟩ := q1.ptr
      refine ⟨_, .of (.ptr h1), ?_⟩
      simp [execOp, ho, h, Instr.fieldAt, run_underlying hu, hf, Instr.sureAddr, fieldPlace, sz_info hs, hn, add_eq, Nat.add_assoc]
  · cases hr
theorem ok_ids {u el : TypeId} {x i : Operand} {x' i' : X} {n : Nat} (hu : P.underlying u = some (.slice el)) (hs : sz P el = some n)
    (ho : o.op = .indexAddr u x i) (hx : trX x = some x') (hi : trX i = some i') (hr : evOp C made (.ids n x' i') e H K = some r) : LocalOK P o e H K r cr := by
  simp only [evOp] at hr
  split at hr
  · rename_i p l c k m e1 e2
    simp only [hidx] at hr
    split at hr
    · rename_i b o' s
      split at hr
      · rename_i hb
        refine pure_ok _ hr fun ρ hp w a _ _ hE => ?_
        have q1 := vx hE hx (by simp [ho, Op.operands])
        have q2 := vx hE hi (by simp [ho, Op.operands])
        rw [e1] at q1; rw [e2] at q2
        obtain ⟨_, b', d', c', h1, h, _⟩ := q1.slc (by omega)
        refine ⟨_, .of (.ptr h1), ?_⟩
        simp [execOp, ho, h, q2.int, Instr.indexAt, asIntOf, run_underlying hu, hb, sz_info hs, add_eq, Nat.add_assoc]
      · cases hr
    · cases hr
  · cases hr
theorem ok_ida {u el : TypeId} {x i : Operand} {x' i' : X} {n m : Nat} (hu : P.underlying u = some (.array m el)) (hs : sz P el = some n)
    (ho : o.op = .indexAddr u x i) (hx : trX x = some x') (hi : trX i = some i') (hr : evOp C made (.ida m n x' i') e H K = some r) : LocalOK P o e H K r cr := by
  simp only [evOp] at hr
  split at hr
  · rename_i p k m e1 e2
    simp only [hidx] at hr
    split at hr
    · rename_i b o' s
      split at hr
      · rename_i hb
        refine pure_ok _ hr fun ρ hp w a _ _ hE => ?_
        have q1 := vx hE hx (by simp [ho, Op.operands])
        have q2 := vx hE hi (by simp [ho, Op.operands])
        rw [e1] at q1; rw [e2] at q2
        obtain ⟨_, b', d', h1, h⟩ := q1.ptr
        refine ⟨_, .of (.ptr h1), ?_⟩
        simp [execOp, ho, h, q2.int, Instr.indexAt, asIntOf, run_underlying hu, hb, Instr.sureAddr, sz_info hs, add_eq, Nat.add_assoc]
      · cases hr
    · cases hr
  · cases hr
def partV (P : Program) (t : TypeId) (n : Nat) (cs : List Value) (off : Nat) : Option Value := bif isAg P t then some (.agg ⟨(cs.drop off).take n⟩) else cs[off]?
theorem part_abs {t : TypeId} {n off : Nat} {cs : List Value} {K' : Value → Option R}
    (hr : (match vkOf P t with
      | .sc s => (match cs[off]? with | some v => asS s v K' | none => none)
      | .agg ks => asN ks ((cs.drop off).take n) fun vs => K' (.agg ⟨vs⟩)) = some r) : ∃ v, partV P t n cs off = some v ∧ K' v = some r := by
  cases hA : isAg P t with
  | false =>
    simp only [vkOf, hA, cond_false] at hr
    split at hr
    · rename_i v hv
      exact ⟨v, by simp [partV, hA, hv], asS_ok hr⟩
    · cases hr
  | true =>
    simp only [vkOf, hA, cond_true] at hr
    exact ⟨_, by simp [partV, hA], asN_ok hr⟩
theorem part_run {ρ : Ren} {t : TypeId} {d : TypeDesc} {n off : Nat} {cs : List Value} {ds : Array Value} {v : Value} (hd : P.underlying t = some d) (hs : sz P t = some n) (hl : LRel ρ cs ds.toList)
    (hv : partV P t n cs off = some v) : ∃ v', VRel ρ v v' ∧ ∀ w, (part t ds off).run P w = .ok v' w := by
  cases hA : isAg P t with
  | false =>
    simp only [partV, hA, cond_false] at hv
    obtain ⟨y, h1, h2⟩ := hl.get hv
    have h1' : ds[off]? = some y := by simpa using h1
    exact ⟨y, h2, fun w => by simp [part, isAgg_run hd, hA, h1']⟩
  | true =>
    simp only [partV, hA, cond_true] at hv
    cases hv
    refine ⟨.agg (ds.extract off (off + n)), ?_, fun w => ?_⟩
    · have h2 := (hl.drop off).take n
      have e1 : ds.extract off (off + n) = ⟨(ds.toList.drop off).take n⟩ := by
        apply Array.ext'
        simp [List.extract_eq_take_drop]
      rw [e1]
      exact .agg h2.1 h2.2
    · simp [part, isAgg_run hd, hA, sz_info hs]
end pure
end Go.Proofs.Ytjajknghcbpblaa.FW
