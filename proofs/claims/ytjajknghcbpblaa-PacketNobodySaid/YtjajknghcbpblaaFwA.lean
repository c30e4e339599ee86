/- Each operation of the own machine stands for the model's: copy, calls. -/
import Derived.Test.YtjajknghcbpblaaFw9
set_option linter.unusedVariables false
set_option linter.unusedSimpArgs false
namespace Go.Proofs.Ytjajknghcbpblaa.FW
variable {P : Program} {R : Type}
/-- The function, called with these arguments in this heap, returns this value and leaves that heap: of every world in which the heap lies. -/
def Tri (P : Program) (f : Nat) (args : List Value) (H : Heap) (v : Value) (H' : Heap) : Prop :=
  (∃ fn, P.funcs[f]? = some fn ∧ fn.body.isSome = true ∧ (fn.name == "runtime.NumGoroutine") = false) ∧ H.length ≤ H'.length ∧ ∀ (ρ : Ren) (w : World) (args' : List Value), Rel ρ (hblk H) w → Dom ρ H.length → LRel ρ args args' →
    Calls P f ⟨args'⟩ w fun e w' => ∃ ρ' v', e = .returned v' ∧ V0 ρ' v v' ∧ Goes ρ (hblk H) w ρ' (hblk H') w' ∧ Grow ρ ρ' H.length H'.length
/-- The table of the callees tells the truth. -/
def CSound (P : Program) (C : Tab R) : Prop := ∀ f args H K r, C f args H K = some r → ∃ v H', Tri P f args H v H' ∧ K v H' = some r
theorem hblk_ro (H : Heap) (b : Nat) : hblk (roH H) b = (hblk H b).map fun B => ⟨B.cells, true, B.sz⟩ := by
  induction H generalizing b with
  | nil => simp [roH, hblk]
  | cons x l ih => cases b with
    | zero => simp [roH, hblk]
    | succ b => simpa [roH, hblk] using ih b
theorem roH_length (H : Heap) : (roH H).length = H.length := by simp [roH]
theorem Rel.ro {ρ : Ren} {hp : Nat → Option Blk} {H : Heap} {w : World} (h : Rel ρ hp w) (hs : ∀ b B, hblk H b = some B → hp b = some B) : Rel ρ (hblk (roH H)) w := by
  refine ⟨fun b B hb => ?_, fun b1 B1 b2 B2 x1 d1 x2 d2 k1 k2 hne hro => ?_⟩
  · rw [hblk_ro] at hb
    obtain ⟨B0, h1, rfl⟩ := Option.map_eq_some_iff.1 hb
    obtain ⟨b', d, m, arr, el, fr, e1, e2, e3, e4, e5⟩ := h.blk b B0 (hs b B0 h1)
    exact ⟨b', d, m, arr, el, fr, e1, e2, e3, fun h => (by cases h), e5⟩
  · rw [hblk_ro] at k1
    obtain ⟨B0, h1, rfl⟩ := Option.map_eq_some_iff.1 k1
    cases hro
theorem kept_ro {ρ : Ren} {H : Heap} {w w' : World} (h : Kept ρ (hblk (roH H)) w w') : ∀ c, c < w.heap.size → w'.heap[c]? = w.heap[c]? := by
  intro c hc
  refine h.block c hc fun b B d hb hro => ?_
  rw [hblk_ro] at hb
  obtain ⟨B0, h1, rfl⟩ := Option.map_eq_some_iff.1 hb
  cases hro
/-- A world in which all that was is as it was. -/
theorem Rel.same {ρ : Ren} {hp : Nat → Option Blk} {w w' : World} (h : Rel ρ hp w) (k : ∀ c, c < w.heap.size → w'.heap[c]? = w.heap[c]?) : Rel ρ hp w' := by
  refine ⟨fun b B hb => ?_, h.inj⟩
  obtain ⟨b', d, m, arr, el, fr, e1, e2, e3⟩ := h.blk b B hb
  exact ⟨b', d, m, arr, el, fr, e1, by rw [k b' (Array.getElem?_eq_some_iff.1 e2).1]; exact e2, e3⟩
section seq
variable {o : Oper} {e : Env} {H : Heap} {K : Value → Heap → Option R} {r : R} {C : Tab R} {made : List (Nat × Nat × Nat)}
theorem ok_cpy {c : Call} {u u' el : TypeId} {d s : Operand} {d' s' : X} {n : Nat} (hc : c.callee = .builtin .copy) (ht : c.argTypes.toList = [u, u']) (ha : c.args.toList = [d, s]) (hu : P.underlying u = some (.slice el)) (hs : sz P el = some n)
    (ho : o.op = .call c) (hx1 : trX d = some d') (hx2 : trX s = some s') (hr : evOp C made (.cpy n d' s') e H K = some r) : SeqOK P o e H K r := by
  have ht' : c.argTypes = #[u, u'] := Array.ext' ht
  have ha' : c.args = #[d, s] := Array.ext' ha
  have hm1 : d ∈ o.op.operands := by simp [ho, Op.operands, Call.operands, hc, ha']
  have hm2 : s ∈ o.op.operands := by simp [ho, Op.operands, Call.operands, hc, ha']
  obtain ⟨cs, hrun⟩ := run_builtin P hc ho
  have hrun' : ∀ (a : Act) (w : World) (v' : Value) (w1 : World), (Builtin.copy_ #[u, u'] o.type #[a.eval d, a.eval s]).run P w = .ok v' w1 → (execOp a.eval o).run P w = .ok (.value v') w1 := by
    intro a w v' w1 h
    rw [hrun, ht', ha']
    simp [builtin, h]
  have agr : ∀ ρ : Ren, Agree ρ (hblk H) H := fun ρ b _ _ => rfl
  simp only [evOp] at hr
  split at hr
  · rename_i p l c1 q m c2 e1 e2
    unfold hcpy at hr
    split at hr
    · rename_i xs hxs
      have src : ∀ (ρ : Ren) (w : World) (a : Act), Rel ρ (hblk H) w → Reads ρ e a o → ∃ p' c' q' c2' ys, a.eval d = .slice p' l c' ∧ V0 ρ (.slice p l c1) (.slice p' l c') ∧ a.eval s = .slice q' m c2' ∧ LRel ρ xs ys ∧ xs.length = min m l * n ∧ (Builtin.firstCells n (min m l) (.slice q' m c2')).run P w = .ok ⟨ys⟩ w := by
        intro ρ w a hR hE
        have q1 := vx hE hx1 hm1
        have q2 := vx hE hx2 hm2
        rw [e1] at q1; rw [e2] at q2
        obtain ⟨q', c2', ys, f1, f2, f3, f4⟩ := hcells_rel (P := P) hR (agr ρ) q2 (fun h => by simp [h]) hxs
        have k := f4 w n (min m l) rfl rfl
        rw [f1] at k
        cases p with
        | none => exact ⟨none, c1, q', c2', ys, q1.nils, by rw [q1.nils] at q1; exact q1, f1, f2, f3, k⟩
        | some p =>
          obtain ⟨_, c', k2, _⟩ := q1.slx
          exact ⟨_, c', q', c2', ys, k2, by rw [k2] at q1; exact q1, f1, f2, f3, k⟩
      split at hr
      · rename_i h0
        refine ⟨_, _, hr, Nat.le_refl _, fun ρ w a Q hR hD hE => ?_⟩
        obtain ⟨p', c', q', c2', ys, g1, g2, g3, g4, g5, g6⟩ := src ρ w a hR hE
        have : ys = [] := by have := g4.1; rw [g5, h0] at this; simp at this; exact List.eq_nil_of_length_eq_zero this.symm
        subst this
        refine wp_of_run (hrun' a w (.int .i64 0) w ?_) ⟨ρ, _, rfl, .of (.int _ _), .refl hR, .refl _ _ _⟩
        rw [g1, g3]
        rw [h0] at g6
        have h0' : Nat.min m l = 0 := h0
        unfold Builtin.copy_
        cases p' with
        | none => simp [run_underlying hu, sz_info hs, Builtin.lenOf, h0', g6, goInt]
        | some p' => simp [run_underlying hu, sz_info hs, Builtin.lenOf, h0', g6, goInt, storeCells]
      · rename_i h0
        obtain ⟨b, o', sp, B, rfl, hB, hro, hle, hone, hk⟩ := hst_ok hr
        refine ⟨_, _, hk, by rw [hset_length]; exact Nat.le_refl _, fun ρ w a Q hR hD hE => ?_⟩
        obtain ⟨p', c', q', c2', ys, g1, g2, g3, g4, g5, g6⟩ := src ρ w a hR hE
        obtain ⟨rfl, b', dd, c3, k1, k2, k3, k4, k5⟩ := g2.slc (fun h => h0 (by simp [h.1]))
        cases k2
        obtain ⟨rfl, w', i1, i2⟩ := store_goes (P := P) hR hB hro k1 g4 hle hone
        refine wp_of_run (hrun' a w (.int .i64 (min m l : Nat)) w' ?_) ⟨ρ, _, rfl, .of (.int _ _), i2, .refl _ _ _⟩
        rw [g1, g3]
        have e4 : Nat.min m l = min m l := rfl
        unfold Builtin.copy_
        simp [run_underlying hu, sz_info hs, Builtin.lenOf, e4, g6, i1, goInt]
    · cases hr
  · cases hr
theorem freeze_heap (w : World) (g n : Nat) {arr : Array Value} {el : TypeId} (h : w.heap[g]? = some (.cells arr el (0, 0))) : (w.freeze ⟨g, n, none⟩ 1).heap[g]? = some (.cells arr el (n, n + 1)) ∧ (∀ c, c ≠ g → (w.freeze ⟨g, n, none⟩ 1).heap[c]? = w.heap[c]?) ∧ (w.freeze ⟨g, n, none⟩ 1).heap.size = w.heap.size ∧ (w.freeze ⟨g, n, none⟩ 1).os = w.os ∧ (w.freeze ⟨g, n, none⟩ 1).tape = w.tape ∧ (w.freeze ⟨g, n, none⟩ 1).output = w.output := by
  unfold World.freeze
  rw [if_neg (by decide)]
  refine ⟨?_, fun c hc => ?_, by simp, rfl, rfl, rfl⟩
  · simp [Array.getElem?_modify, h]
  · simp [Array.getElem?_modify, Ne.symm hc]
theorem goes_mark {ρ : Ren} {hp hp' : Nat → Option Blk} {w : World} (hR : Rel ρ hp w) {b b' m : Nat} {B : Blk} {arr : Array Value} {el : TypeId} (hb : hp b = some B) (hro : B.ro = false) (hρ : ρ b = some (b', 0, m)) (hw : w.heap[b']? = some (.cells arr el (0, 0))) (he : ∀ i, hp' i = if i = b then some ⟨B.cells, true, B.sz⟩ else hp i) (n : Nat) : Goes ρ hp w ρ hp' (w.freeze ⟨b', n, none⟩ 1) := by
  obtain ⟨f1, f2, f3, f4, f5, f6⟩ := freeze_heap w b' n hw
  have hx : ∀ i B', hp' i = some B' → ∃ B0, hp i = some B0 ∧ B0.cells = B'.cells ∧ B0.sz = B'.sz ∧ (B'.ro = false → B0 = B' ∧ i ≠ b) := by
    intro i B' h'
    rw [he] at h'
    split at h'
    · rename_i e; subst e; cases h'; exact ⟨B, hb, rfl, rfl, fun hh => by cases hh⟩
    · rename_i e; exact ⟨B', h', rfl, rfl, fun _ => ⟨rfl, e⟩⟩
  refine ⟨Le.refl _, ⟨fun i B' h' => ?_, fun b1 B1 b2 B2 x1 d1 x2 d2 k1 k2 hne hr a1 a2 => ?_⟩, ⟨f4, f5, f6, by rw [f3]; exact Nat.le_refl _, fun c hc hno => f2 c (fun hh => hno b B 0 hb hro (by rw [hh]; exact ⟨_, hρ⟩))⟩, fun i B' x d h' hx' => ?_⟩
  · obtain ⟨B0, g1, g2, g3, g4⟩ := hx i B' h'
    by_cases e : i = b
    · subst e
      rw [hb] at g1; cases g1
      obtain ⟨x, d, m2, arr2, el2, fr, e1, e2, e3, e4, e5⟩ := hR.blk i B hb
      rw [hρ] at e1; cases e1
      rw [hw] at e2; cases e2
      exact ⟨b', 0, m, arr, el, _, hρ, f1, fun j v hv => e3 j v (by rw [g2]; exact hv), fun hr => ((g4 hr).2 rfl).elim, by rw [← g2]; exact e5⟩
    · obtain ⟨x, d, m2, arr2, el2, fr, e1, e2, e3, e4, e5⟩ := hR.blk i B0 g1
      have hxb : x ≠ b' := fun hh => hR.inj b B i B0 b' 0 x d hb g1 (fun h => e h.symm) hro ⟨_, hρ⟩ ⟨_, e1⟩ hh.symm
      refine ⟨x, d, m2, arr2, el2, fr, e1, by rw [f2 x hxb]; exact e2, fun j v hv => e3 j v (by rw [g2]; exact hv), fun hr => ?_, by rw [← g2]; exact e5⟩
      have := (g4 hr).1
      subst this
      exact e4 hr
  · obtain ⟨C1, g1, _, _, g4⟩ := hx b1 B1 k1
    obtain ⟨C2, h1, _⟩ := hx b2 B2 k2
    have := (g4 hr).1
    subst this
    exact hR.inj b1 C1 b2 C2 x1 d1 x2 d2 g1 h1 hne hr a1 a2
  · obtain ⟨B0, g1, _, _, g4⟩ := hx i B' h'
    exact .inr (.inl ⟨B0, g1, hx', fun hr => by rw [(g4 hr).1]; exact hr⟩)
theorem ok_cvs {u v el el' : TypeId} {s : Operand} {s' : X} (hu : P.underlying u = some (.slice el)) (hv : P.underlying v = some (.slice el')) (he : P.underlying el = some (.int .u8)) (huv : (u == v) = true)
    (ho : o.op = .convert u v s) (hx : trX s = some s') (hr : evOp C made (.cvs s') e H K = some r) : SeqOK P o e H K r := by
  have hm : s ∈ o.op.operands := by simp [ho, Op.operands]
  have huv' : u = v := by simpa using huv
  subst huv'
  rw [hu] at hv; cases hv
  simp only [evOp] at hr
  split at hr
  · rename_i p l c e1
    unfold hcvs at hr
    split at hr
    · cases hr
    · rename_i h0
      split at hr
      · rename_i B hB
        cases hro : B.ro with
        | true => rw [hro] at hr; cases hr
        | false =>
          rw [hro, cond_false] at hr
          refine ⟨_, _, hr, by rw [hset_length]; exact Nat.le_refl _, fun ρ w a Q hR hD hE => ?_⟩
          have q1 := vx hE hx hm
          rw [e1] at q1
          obtain ⟨b, o', sp⟩ := p
          obtain ⟨rfl, b', dd, c3, k1, k2, k3, k4, k5⟩ := q1.slc (fun h => h0 h.1)
          obtain ⟨m, arr, el2, rfl, h2, h3, h4, h5, h6, h7⟩ := live_parts hR hB hro k1
          have hsh : w.shape? b' = some (el2, arr.size) := by unfold World.shape?; rw [h3]
          have hg := goes_mark (hp' := hblk (hset H b (some ⟨B.cells, true, B.sz⟩))) hR hB hro h2 h3 (fun i => by
            rw [hset_get]
            by_cases hib : i = b
            · rw [if_pos ⟨hib, hblk_lt hB⟩, if_pos hib]
            · rw [if_neg (fun hh => hib hh.1), if_neg hib]) arr.size
          refine wp_of_run (v' := .slice (some ⟨b', 0 + o', none⟩) l c3) (w' := w.freeze ⟨b', arr.size, none⟩ 1) ?_ ⟨ρ, _, rfl, .of (.slc k1 k3 k4 k5), hg, .refl _ _ _⟩
          simp [execOp, ho, k2, convert, run_underlying hu, run_underlying he, markStringish, hsh]
      · cases hr
  · cases hr
theorem ok_clr {c : Call} {u el : TypeId} {s : Operand} {s' : X} {n : Nat} {z : List Value} (hc : c.callee = .builtin .clear) (ht : c.argTypes.toList = [u]) (ha : c.args.toList = [s]) (hu : P.underlying u = some (.slice el)) (hz : zer P el = some z) (hs : sz P el = some n) (hn : n = z.length) (hn0 : n ≠ 0) (hf : z.all ptrFreeC = true)
    (ho : o.op = .call c) (hx : trX s = some s') (hr : evOp C made (.clr z s') e H K = some r) : SeqOK P o e H K r := by
  have ht' : c.argTypes = #[u] := Array.ext' ht
  have ha' : c.args = #[s] := Array.ext' ha
  have hm : s ∈ o.op.operands := by simp [ho, Op.operands, Call.operands, hc, ha']
  obtain ⟨cs, hrun⟩ := run_builtin P hc ho
  have hrun' : ∀ (a : Act) (w : World) (v' : Value) (w1 : World), (Builtin.clear_ #[u] o.type #[a.eval s]).run P w = .ok v' w1 → (execOp a.eval o).run P w = .ok (.value v') w1 := by
    intro a w v' w1 h
    rw [hrun, ht', ha']
    simp [builtin, h]
  simp only [evOp] at hr
  split at hr
  · rename_i p l c1 e1
    unfold hclr at hr
    split at hr
    · rename_i h0
      subst h0
      refine ⟨_, _, hr, Nat.le_refl _, fun ρ w a Q hR hD hE => ?_⟩
      have q1 := vx hE hx hm
      rw [e1] at q1
      refine wp_of_run (hrun' a w undef w ?_) ⟨ρ, _, rfl, .inl rfl, .refl hR, .refl _ _ _⟩
      cases p with
      | none => rw [q1.nils]; unfold Builtin.clear_; simp [run_underlying hu, undef]
      | some p =>
        obtain ⟨a', c', k2, _⟩ := q1.slx
        rw [k2]; unfold Builtin.clear_; simp [run_underlying hu, undef]
    · rename_i h0
      obtain ⟨b, o', sp, B, rfl, hB, hro, hle, hone, hk⟩ := hst_ok hr
      obtain ⟨it, zv, z1, z2, z3⟩ := zer_info hz
      have hz0 : zv.cells.toList ≠ [] := by rw [z3]; intro h; rw [h] at hn; exact hn0 hn
      have hzc : (Builtin.zeroCells zv.cells l).toList = mkCells z l := by
        unfold Builtin.zeroCells
        rw [mk_eq, made_cells (n := l) hz0 rfl, z3]
      refine ⟨_, _, hk, by rw [hset_length]; exact Nat.le_refl _, fun ρ w a Q hR hD hE => ?_⟩
      have q1 := vx hE hx hm
      rw [e1] at q1
      obtain ⟨rfl, b', dd, c3, k1, k2, k3, k4, k5⟩ := q1.slc (fun h => h0 h.1)
      have hL : LRel ρ (mkCells z l) (mkCells z l) := ⟨rfl, fun i x y a1 a2 => by
        rw [a1] at a2; cases a2
        have hm : x ∈ rep z l := by rw [← mk_eq]; exact List.mem_of_getElem? a1
        have := List.all_eq_true.1 (rep_free hf l) x hm
        exact VRel.self (ptrFree_of this) (okv_of this) ρ⟩
      obtain ⟨rfl, w', i1, i2⟩ := store_goes (P := P) hR hB hro k1 hL hle hone
      refine wp_of_run (hrun' a w undef w' ?_) ⟨ρ, _, rfl, .inl rfl, i2, .refl _ _ _⟩
      rw [k2]
      obtain ⟨l, rfl⟩ : ∃ l', l = l' + 1 := ⟨l - 1, by omega⟩
      unfold Builtin.clear_
      simp [run_underlying hu, zeroValue, typeInfo, z1, z2, hzc, undef]

      simp [i1]
  · cases hr
theorem asR_ok {k : RK} {v : Value} {K' : Value → Option R} (h : asR k v K' = some r) : K' v = some r ∨ K' undef = some r := by
  cases k with
  | none => simp only [asR] at h; exact .inr h
  | one k => simp only [asR] at h; exact .inl (asK_ok h)
  | tup ks => cases v <;> simp only [asR] at h <;> first | (cases h; done) | exact .inl (asT_ok h)
def CallOK (P : Program) (o : Oper) (e : Env) (H Hs : Heap) (K : Value → Heap → Option R) (r : R) (cr : Bool) : Prop :=
  ∃ v nb, K v (H ++ nb) = some r ∧ (cr = false → nb = []) ∧ ∀ (ρ : Ren) (hp : Nat → Option Blk) (w : World) (a : Act) (Q : Exit → Act → World → Prop),
    Rel ρ hp w → (∀ b B, hblk Hs b = some B → hp b = some B) → Dom ρ H.length → Reads ρ e a o → o.wp P a w (LP o a ρ hp w H.length v nb) Q
theorem CallOK.seq {cr : Bool} {Hs : Heap} (h : CallOK P o e H Hs K r cr) (hs : ∀ b B, hblk Hs b = some B → hblk H b = some B) : SeqOK P o e H K r := by
  obtain ⟨v, nb, h1, _, h3⟩ := h
  refine ⟨v, H ++ nb, h1, by simp, fun ρ w a Q hR hD hE => ?_⟩
  refine Oper.wp_mono ?_ (h3 ρ (hblk H) w a Q hR hs hD hE)
  rintro a' w' ⟨ρ', v', e1, e2, e3, e4⟩
  exact ⟨ρ', v', e1, e2, by rw [hblk_append]; exact e3, fun b hb => by simpa using e4 b hb⟩
theorem run_enter {c : Call} {f : FuncId} {fn : Func} (hc : c.callee = .value (.func f)) (hf : P.funcs[f]? = some fn) (hb : fn.body.isSome = true) (hn : (fn.name == "runtime.NumGoroutine") = false) (ho : o.op = .call c) (a : Act) (w : World) :
    (execOp a.eval o).run P w = .ok (.enter f (c.args.map a.eval)) w := by
  have hb' : fn.body ≠ none := by cases h : fn.body <;> simp_all
  have hn' : ¬ fn.name = "runtime.NumGoroutine" := by simpa using hn
  simp [execOp, ho, resolve, hc, Deferred.ofValue, Act.eval, invoke, callFunc, hf, hn', hb']
theorem wp_of_enter {a : Act} {w : World} {next : Act → World → Prop} {Q : Exit → Act → World → Prop} {f : FuncId} {args : Array Value}
    (h : (execOp a.eval o).run P w = .ok (.enter f args) w) (hc : Calls P f args w fun e w' => ∃ v, e = .returned v ∧ next (a.put o.dst v) w') : o.wp P a w next Q := by
  unfold Oper.wp
  rw [h, Oper.upon_enter]
  refine hc.mono fun e w' ⟨v, he, hn⟩ => ?_
  subst he
  exact hn
theorem args_arr {a : Act} {c : Call} : (⟨c.args.toList.map a.eval⟩ : Array Value) = c.args.map a.eval := Array.ext' (by simp)
theorem ok_call {c : Call} {f : FuncId} {fn : Func} {xs : List X} {k : RK} (hC : CSound P C) (hc : c.callee = .value (.func f)) (hf : P.funcs[f]? = some fn) (hb : fn.body.isSome = true) (hn : (fn.name == "runtime.NumGoroutine") = false)
    (hx : trXs c.args.toList = some xs) (ho : o.op = .call c) (hr : evOp C made (.call f xs k) e H K = some r) : SeqOK P o e H K r := by
  simp only [evOp] at hr
  cases hk : allOk (gxs e xs) with
  | false => rw [hk] at hr; cases hr
  | true =>
    rw [hk, cond_true] at hr
    obtain ⟨v, H', ⟨_, h1, h2⟩, h3⟩ := hC _ _ _ _ _ hr
    have main : ∀ v2, K v2 H' = some r → (v2 = v ∨ v2 = undef) → SeqOK P o e H K r := by
      intro v2 hk2 hv2
      refine ⟨v2, H', hk2, h1, fun ρ w a Q hR hD hE => ?_⟩
      have hm : ∀ x ∈ c.args.toList, x ∈ o.op.operands := fun x hx => by simp [ho, Op.operands, Call.operands, hc]; exact .inr (by simpa using hx)
      have h4 := h2 ρ w (c.args.toList.map a.eval) hR hD (trXs_rel hE hx hm hk)
      rw [args_arr] at h4
      refine wp_of_enter (run_enter hc hf hb hn ho a w) (h4.mono fun e' w' ⟨ρ', v', q1, q2, q3, q4⟩ => ⟨v', q1, ρ', v', rfl, ?_, q3, q4⟩)
      rcases hv2 with rfl | rfl
      · exact q2
      · exact .inl rfl
    rcases asR_ok h3 with h | h
    · exact main v h (.inl rfl)
    · exact main undef h (.inr rfl)
theorem ok_calp {c : Call} {f : FuncId} {fn : Func} {xs : List X} {k : RK} (hC : CSound P C) (hc : c.callee = .value (.func f)) (hf : P.funcs[f]? = some fn) (hb : fn.body.isSome = true) (hn : (fn.name == "runtime.NumGoroutine") = false)
    (hx : trXs c.args.toList = some xs) (ho : o.op = .call c) (hr : evOp C made (.calp f xs k) e H K = some r) : CallOK P o e H H K r false := by
  simp only [evOp] at hr
  cases hk : allOk (gxs e xs) with
  | false => rw [hk] at hr; cases hr
  | true =>
    rw [hk, cond_true] at hr
    obtain ⟨v, H', ⟨_, h1, h2⟩, h3⟩ := hC _ _ _ _ _ hr
    cases hfree : ptrFree v with
    | false => rw [hfree] at h3; cases h3
    | true =>
      rw [hfree, cond_true] at h3
      have main : ∀ v2, K v2 H = some r → (v2 = v ∨ v2 = undef) → CallOK P o e H H K r false := by
        intro v2 hk2 hv2
        refine ⟨v2, [], by simpa using hk2, fun _ => rfl, fun ρ hp w a Q hR hs hD hE => ?_⟩
        have hm : ∀ x ∈ c.args.toList, x ∈ o.op.operands := fun x hx => by simp [ho, Op.operands, Call.operands, hc]; exact .inr (by simpa using hx)
        have h4 := h2 ρ w (c.args.toList.map a.eval) (hR.ro hs) (by rw [roH_length]; exact hD) (trXs_rel hE hx hm hk)
        rw [args_arr] at h4
        refine wp_of_enter (run_enter hc hf hb hn ho a w) (h4.mono fun e' w' ⟨ρ', v', q1, q2, q3, q4⟩ => ⟨v', q1, ρ, v', rfl, ?_, ?_, fun b hb => .inl hb⟩)
        · rcases hv2 with rfl | rfl
          · rcases q2 with q | q | q
            · exact .inl q
            · exact .inr (.inl q)
            · exact .of (q.free hfree ρ)
          · exact .inl rfl
        · rw [hpu_nil]
          have hkeep := kept_ro q3.kept
          exact ⟨Le.refl _, hR.same hkeep, ⟨q3.kept.os, q3.kept.tape, q3.kept.output, q3.kept.size, fun c hc _ => hkeep c hc⟩, fun b B x d hb hx => .inr (.inl ⟨B, hb, hx, id⟩)⟩
      rcases asR_ok h3 with h | h
      · exact main v h (.inl rfl)
      · exact main undef h (.inr rfl)
theorem ok_calf {c : Call} {f : FuncId} {fn : Func} {xs : List X} {hide : List Nat} {k : RK} (hC : CSound P C) (hc : c.callee = .value (.func f)) (hf : P.funcs[f]? = some fn) (hb : fn.body.isSome = true) (hn : (fn.name == "runtime.NumGoroutine") = false)
    (hlen : (hideH H made hide).length = H.length) (hx : trXs c.args.toList = some xs) (ho : o.op = .call c) (hr : evOp C made (.calf f xs hide k) e H K = some r) : CallOK P o e H (hideH H made hide) K r true := by
  simp only [evOp] at hr
  cases hk : allOk (gxs e xs) with
  | false => rw [hk] at hr; cases hr
  | true =>
    rw [hk, cond_true] at hr
    obtain ⟨v, H', ⟨_, h1, h2⟩, h3⟩ := hC _ _ _ _ _ hr
    rw [roH_length, hlen] at h1
    have main : ∀ v2, K v2 (H ++ H'.drop H.length) = some r → (v2 = v ∨ v2 = undef) → CallOK P o e H (hideH H made hide) K r true := by
      intro v2 hk2 hv2
      refine ⟨v2, H'.drop H.length, hk2, (fun h => by cases h), fun ρ hp w a Q hR hs hD hE => ?_⟩
      have hm : ∀ x ∈ c.args.toList, x ∈ o.op.operands := fun x hx => by simp [ho, Op.operands, Call.operands, hc]; exact .inr (by simpa using hx)
      have h4 := h2 ρ w (c.args.toList.map a.eval) (hR.ro hs) (by rw [roH_length, hlen]; exact hD) (trXs_rel hE hx hm hk)
      rw [args_arr] at h4
      have hl2 : H.length + (H'.drop H.length).length = H'.length := by simp; omega
      refine wp_of_enter (run_enter hc hf hb hn ho a w) (h4.mono fun e' w' ⟨ρ', v', q1, q2, q3, q4⟩ => ⟨v', q1, ρ', v', rfl, ?_, ?_, fun b hb => ?_⟩)
      · rcases hv2 with rfl | rfl
        · exact q2
        · exact .inl rfl
      · have hkeep := kept_ro q3.kept
        have hget : ∀ b, hpu hp H.length (H'.drop H.length) b = if H.length ≤ b ∧ b < H'.length then hblk H' b else hp b := by
          intro b
          unfold hpu
          rw [hl2]
          split
          · rename_i hh
            rw [hblk_get, hblk_get, List.getElem?_drop, show H.length + (b - H.length) = b from by omega]
          · rfl
        have hanc : ∀ b B x d, H.length ≤ b → hblk H' b = some B → At ρ' b x d → w.heap.size ≤ x := by
          intro b B x d hlb hb hx
          rcases q3.ancs b B x d hb hx with h | ⟨B0, g1, _⟩ | ⟨b0, B0, d0, g1, g2, _⟩
          · exact h
          · have := hblk_lt g1; rw [roH_length, hlen] at this; omega
          · rw [hblk_ro] at g1
            obtain ⟨B1, _, rfl⟩ := Option.map_eq_some_iff.1 g1
            cases g2
        have hold := hR.same hkeep
        have hlt : ∀ b B x d, hp b = some B → At ρ b x d → x < w.heap.size := by
          intro b B x d hb ⟨m, hx⟩
          obtain ⟨b', d', m', arr, el, fr, e1, e2, _⟩ := hR.blk b B hb
          rw [hx] at e1; cases e1
          exact (Array.getElem?_eq_some_iff.1 e2).1
        have hback : ∀ b B x d, hp b = some B → At ρ' b x d → At ρ b x d := by
          intro b B x d hb ⟨m, hx⟩
          obtain ⟨b', d', m', arr, el, fr, e1, e2, _⟩ := hR.blk b B hb
          have := q3.le _ _ e1
          rw [hx] at this; cases this
          exact ⟨_, e1⟩
        refine ⟨q3.le, ⟨fun b B hb => ?_, fun b1 B1 b2 B2 x1 d1 x2 d2 k1 k2 hne hro1 e1 e2 => ?_⟩, ⟨q3.kept.os, q3.kept.tape, q3.kept.output, q3.kept.size, fun c hc _ => hkeep c hc⟩, fun b B x d hb hx => ?_⟩
        · rw [hget] at hb
          split at hb
          · exact q3.rel.blk b B hb
          · obtain ⟨b', d, m, arr, el, fr, e1, e2, e3, e4⟩ := hold.blk b B hb
            exact ⟨b', d, m, arr, el, fr, q3.le _ _ e1, e2, fun i v hv => (by obtain ⟨y, g1, g2⟩ := e3 i v hv; exact ⟨y, g1, g2.mono q3.le⟩), e4⟩
        · rw [hget] at k1 k2
          split at k1
          · rename_i hr1
            have g1 := hanc b1 B1 x1 d1 hr1.1 k1 e1
            split at k2
            · exact q3.rel.inj b1 B1 b2 B2 x1 d1 x2 d2 k1 k2 hne hro1 e1 e2
            · have := hlt b2 B2 x2 d2 k2 (hback _ _ _ _ k2 e2)
              omega
          · have g1 := hlt b1 B1 x1 d1 k1 (hback _ _ _ _ k1 e1)
            split at k2
            · rename_i hr2
              have := hanc b2 B2 x2 d2 hr2.1 k2 e2
              omega
            · exact hR.inj b1 B1 b2 B2 x1 d1 x2 d2 k1 k2 hne hro1 (hback _ _ _ _ k1 e1) (hback _ _ _ _ k2 e2)
        · rw [hget] at hb
          split at hb
          · rename_i hr1; exact .inl (hanc b B x d hr1.1 hb hx)
          · exact .inr (.inl ⟨B, hb, hback _ _ _ _ hb hx, id⟩)
      · rw [hl2]
        have := q4 b hb
        rwa [roH_length, hlen] at this
    rcases asR_ok h3 with h | h
    · exact main v h (.inl rfl)
    · exact main undef h (.inr rfl)
theorem ok_calv {c : Call} {g : Operand} {g' : X} {xs : List X} {k : RK} (hC : CSound P C) (hc : c.callee = .value g) (hg : trX g = some g')
    (hx : trXs c.args.toList = some xs) (ho : o.op = .call c) (hr : evOp C made (.calv g' xs k) e H K = some r) : SeqOK P o e H K r := by
  simp only [evOp] at hr
  split at hr
  · rename_i f fs cs e1
    cases hk : allOk (fs.toList ++ gxs e xs ++ cs.toList) with
    | false => rw [hk] at hr; cases hr
    | true =>
      rw [hk, cond_true] at hr
      obtain ⟨v, H', ⟨⟨fn, hf, hb, hn⟩, h1, h2⟩, h3⟩ := hC _ _ _ _ _ hr
      have allOk_app : ∀ xs ys : List Value, allOk (xs ++ ys) = true → allOk xs = true ∧ allOk ys = true := by
        intro xs ys
        induction xs with
        | nil => intro h; exact ⟨rfl, h⟩
        | cons x xs ih =>
          intro h
          simp only [List.cons_append, allOk] at h ⊢
          cases hx : okv x with
          | false => rw [hx] at h; cases h
          | true => rw [hx, cond_true] at h; rw [cond_true]; exact ih h
      have hk2 := (allOk_app _ _ (allOk_app _ _ hk).1).2
      have main : ∀ v2, K v2 H' = some r → (v2 = v ∨ v2 = undef) → SeqOK P o e H K r := by
        intro v2 hk3 hv2
        refine ⟨v2, H', hk3, h1, fun ρ w a Q hR hD hE => ?_⟩
        have hm : ∀ x ∈ c.args.toList, x ∈ o.op.operands := fun x hx => by simp [ho, Op.operands, Call.operands, hc]; exact .inr (by simpa using hx)
        have q := vx hE hg (by simp [ho, Op.operands, Call.operands, hc])
        rw [e1] at q
        obtain ⟨fs', cs', g1, g2, g3⟩ := q.func
        have h4 := h2 ρ w (fs'.toList ++ c.args.toList.map a.eval ++ cs'.toList) hR hD ((g2.append (trXs_rel hE hx hm hk2)).append g3)
        have ea : (⟨fs'.toList ++ c.args.toList.map a.eval ++ cs'.toList⟩ : Array Value) = fs' ++ c.args.map a.eval ++ cs' := Array.ext' (by simp)
        rw [ea] at h4
        have hb' : fn.body ≠ none := by cases h : fn.body <;> simp_all
        have hn' : ¬ fn.name = "runtime.NumGoroutine" := by simpa using hn
        refine wp_of_enter (f := f) (args := fs' ++ c.args.map a.eval ++ cs') (by simp [execOp, ho, resolve, hc, g1, Deferred.ofValue, invoke, callFunc, hf, hn', hb']) (h4.mono fun e' w' ⟨ρ', v', q1, q2, q3, q4⟩ => ⟨v', q1, ρ', v', rfl, ?_, q3, q4⟩)
        rcases hv2 with rfl | rfl
        · exact q2
        · exact .inl rfl
      rcases asR_ok h3 with h | h
      · exact main v h (.inl rfl)
      · exact main undef h (.inr rfl)
  · cases hr
theorem ok_calq {c : Call} {g : Operand} {g' : X} {xs : List X} {k : RK} (hC : CSound P C) (hc : c.callee = .value g) (hg : trX g = some g')
    (hx : trXs c.args.toList = some xs) (ho : o.op = .call c) (hr : evOp C made (.calq g' xs k) e H K = some r) : CallOK P o e H H K r false := by
  simp only [evOp] at hr
  split at hr
  · rename_i f fs cs e1
    cases hk : allOk (fs.toList ++ gxs e xs ++ cs.toList) with
    | false => rw [hk] at hr; cases hr
    | true =>
      rw [hk, cond_true] at hr
      obtain ⟨v, H', ⟨⟨fn, hf, hb, hn⟩, h1, h2⟩, h3⟩ := hC _ _ _ _ _ hr
      have allOk_app : ∀ xs ys : List Value, allOk (xs ++ ys) = true → allOk xs = true ∧ allOk ys = true := by
        intro xs ys
        induction xs with
        | nil => intro h; exact ⟨rfl, h⟩
        | cons x xs ih =>
          intro h
          simp only [List.cons_append, allOk] at h ⊢
          cases hx : okv x with
          | false => rw [hx] at h; cases h
          | true => rw [hx, cond_true] at h; rw [cond_true]; exact ih h
      have hk2 := (allOk_app _ _ (allOk_app _ _ hk).1).2
      cases hfree : ptrFree v with
      | false => rw [hfree] at h3; cases h3
      | true =>
      rw [hfree, cond_true] at h3
      have main : ∀ v2, K v2 H = some r → (v2 = v ∨ v2 = undef) → CallOK P o e H H K r false := by
        intro v2 hk3 hv2
        refine ⟨v2, [], by simpa using hk3, fun _ => rfl, fun ρ hp w a Q hR hs hD hE => ?_⟩
        have hm : ∀ x ∈ c.args.toList, x ∈ o.op.operands := fun x hx => by simp [ho, Op.operands, Call.operands, hc]; exact .inr (by simpa using hx)
        have q := vx hE hg (by simp [ho, Op.operands, Call.operands, hc])
        rw [e1] at q
        obtain ⟨fs', cs', g1, g2, g3⟩ := q.func
        have h4 := h2 ρ w (fs'.toList ++ c.args.toList.map a.eval ++ cs'.toList) (hR.ro hs) (by rw [roH_length]; exact hD) ((g2.append (trXs_rel hE hx hm hk2)).append g3)
        have ea : (⟨fs'.toList ++ c.args.toList.map a.eval ++ cs'.toList⟩ : Array Value) = fs' ++ c.args.map a.eval ++ cs' := Array.ext' (by simp)
        rw [ea] at h4
        have hb' : fn.body ≠ none := by cases h : fn.body <;> simp_all
        have hn' : ¬ fn.name = "runtime.NumGoroutine" := by simpa using hn
        refine wp_of_enter (f := f) (args := fs' ++ c.args.map a.eval ++ cs') (by simp [execOp, ho, resolve, hc, g1, Deferred.ofValue, invoke, callFunc, hf, hn', hb']) (h4.mono fun e' w' ⟨ρ', v', q1, q2, q3, q4⟩ => ⟨v', q1, ρ, v', rfl, ?_, ?_, fun b hb => .inl hb⟩)
        · rcases hv2 with rfl | rfl
          · rcases q2 with q | q | q
            · exact .inl q
            · exact .inr (.inl q)
            · exact .of (q.free hfree ρ)
          · exact .inl rfl
        · rw [hpu_nil]
          have hkeep := kept_ro q3.kept
          exact ⟨Le.refl _, hR.same hkeep, ⟨q3.kept.os, q3.kept.tape, q3.kept.output, q3.kept.size, fun c hc _ => hkeep c hc⟩, fun b B x d hb hx => .inr (.inl ⟨B, hb, hx, id⟩)⟩
      rcases asR_ok h3 with h | h
      · exact main v h (.inl rfl)
      · exact main undef h (.inr rfl)
  · cases hr
end seq
end Go.Proofs.Ytjajknghcbpblaa.FW
