/- What came in, by its type: cells that read as data are of a kind (Kd); structs, slices, arrays, nested as they come. For the rows of laws whose parameters are structs, arrays, or slices of these. Plain lemmas over any program. -/
import Derived.Test.YtblpaolcgkjcgaaWMore
import Derived.Test.YtblpaolcgkjcgaaWN
import Derived.ProofKit
import Derived.Carry
import Derived.Deep.Slices
namespace Go.Proofs.Ytblpaolcgkjcgaa.Opens
open Go.RowKit Go.ChangeShapes Go.WideShapes Go.Proofs.YtblpaolcgkjcgaaW.PrintWords Go.Proofs.YtblpaolcgkjcgaaW.PrintLast Go.Proofs.YtblpaolcgkjcgaaW.PrintMore

/-- Cells of type T that came in are of kind d. -/
def Op {α : Type} (P : Program) (T : TypeId) (d : Kd α) (Wf : α → Prop) : Prop :=
  P.cellsOf T = d.sz ∧ ∀ (H : Type) (enc : TypeId × Value → H) (w : World) (fuel : Nat) (cs : List Value) (x : DataW H × List MemPlace),
    DataW.trod enc P w 0 (fun _ => true) true fuel T cs = some x → ∃ a, d.K w a cs ∧ Wf a
section
variable {α β : Type} {P : Program} {T : TypeId} {d : Kd α} {Wf : α → Prop}
theorem Op.mono {Wf' : α → Prop} (h : Op P T d Wf) (hw : ∀ a, Wf a → Wf' a) : Op P T d Wf' :=
  ⟨h.1, fun H enc w fuel cs x hx => by
    obtain ⟨a, h1, h2⟩ := h.2 H enc w fuel cs x hx
    exact ⟨a, h1, hw a h2⟩⟩
theorem op_int {k : IntKind} (hu : P.underlying T = some (.int k)) (hc : P.cellsOf T = 1) : Op P T (Kd.int k) (fun n => (Lit.int k n).wf = true) :=
  ⟨hc, fun H enc w fuel cs x hx => by
    obtain ⟨n, rfl, _, hw⟩ := DataW.trod_int hu hx
    exact ⟨n, rfl, hw⟩⟩
theorem op_bool (hu : P.underlying T = some .bool) (hc : P.cellsOf T = 1) : Op P T Kd.bool (fun _ => True) :=
  ⟨hc, fun H enc w fuel cs x hx => by
    obtain ⟨b, rfl, _⟩ := DataW.trod_bool hu hx
    exact ⟨b, rfl, trivial⟩⟩
theorem op_string (hu : P.underlying T = some .string) (hc : P.cellsOf T = 1) : Op P T Kd.string (fun s => s.size ≤ maxLen) :=
  ⟨hc, fun H enc w fuel cs x hx => by
    obtain ⟨s, rfl, _, hs⟩ := DataW.trod_string hu hx
    exact ⟨s, rfl, hs⟩⟩
theorem op_slice {e : TypeId} (hu : P.underlying T = some (.slice e)) (hc : P.cellsOf T = 1) (h : Op P e d Wf) : Op P T (Kd.slice e d) (fun xs => xs.length ≤ maxLen ∧ ∀ x ∈ xs, Wf x) := by
  refine ⟨hc, fun H enc w fuel cs x hx => ?_⟩
  rcases Go.Deep.open_slice hu hx with ⟨rfl, _⟩ | ⟨a, len, cap, m, n, D, Pl, rfl, _, hl, hm, hmm, _, hel⟩
  · exact ⟨[], ⟨none, 0, rfl, Nat.le_refl _, rfl, by simp, fun h0 => absurd h0 (by simp)⟩, by simp, fun x hx => absurd hx (by simp)⟩
  · have hlm : len ≤ m := by rw [hmm]; simp only [if_true]; exact hl
    have key : ∀ i, i < len → ∃ y : α, (∃ cs', w.cells? 0 (a.add (i * d.sz)) d.sz = some cs' ∧ d.K w y cs') ∧ Wf y := by
      intro i hi
      obtain ⟨cs', h1, h2⟩ := hel i (by omega)
      rw [h.1] at h1
      obtain ⟨y, h3, h4⟩ := h.2 H enc w n cs' _ h2
      exact ⟨y, ⟨cs', h1, h3⟩, h4⟩
    by_cases h0 : len = 0
    · subst h0
      exact ⟨[], ⟨some a, cap, rfl, Nat.zero_le _, rfl, by simp, fun h0 => absurd h0 (by simp)⟩, by simp, fun x hx => absurd hx (by simp)⟩
    · obtain ⟨y0, _⟩ := key 0 (by omega)
      haveI : Inhabited α := ⟨y0⟩
      obtain ⟨f, hf⟩ := Go.Deep.choose_lt key
      have hlen : ((List.range len).map f).length = len := by simp
      refine ⟨(List.range len).map f, ⟨some a, cap, by rw [hlen], by rw [hlen]; exact hl, rfl, by rw [hlen]; unfold maxLen at hm; omega, fun _ => ⟨a, rfl, ?_⟩⟩, by rw [hlen]; exact Nat.le_trans hl hm, ?_⟩
      · intro j p hj
        have hjl : j < len := by
          have := (List.getElem?_eq_some_iff.1 hj).1
          rwa [hlen] at this
        have hp : f j = p := by simpa [hjl] using hj
        subst hp
        obtain ⟨⟨cs', h1, h2⟩, _⟩ := hf j hjl
        refine ⟨cs', d.K_len h2, h2, fun i u hu => ?_⟩
        have hi : i < d.sz := by
          have := (List.getElem?_eq_some_iff.1 hu).1
          rwa [d.K_len h2] at this
        have := (World.cells?_some h1).2.2 i hi
        rw [Go.Deep.add_add] at this
        rw [this, hu]
      · intro x hx
        obtain ⟨j, hj, rfl⟩ := List.mem_map.1 hx
        exact (hf j (List.mem_range.1 hj)).2
/-- Fields in line, from the cell 'off' on. -/
def OpF {α : Type} (P : Program) (fs : List Field) (off : Nat) (d : Kd α) (Wf : α → Prop) : Prop :=
  ∀ (H : Type) (enc : TypeId × Value → H) (w : World) (fuel : Nat) (cs : List Value), off + d.sz ≤ cs.length →
    (∀ f ∈ fs, ∃ x, DataW.trod enc P w 0 (fun _ => true) true fuel f.type ((cs.drop f.offset).take (P.cellsOf f.type)) = some x) → ∃ a, d.K w a ((cs.drop off).take d.sz) ∧ Wf a
theorem opF_one {f : Field} {off : Nat} (ho : f.offset = off) (h : Op P f.type d Wf) : OpF P [f] off d Wf := by
  intro H enc w fuel cs _ hx
  obtain ⟨x, hx⟩ := hx f (by simp)
  rw [ho, h.1] at hx
  exact h.2 H enc w fuel _ x hx
theorem opF_cons {f : Field} {fs : List Field} {off : Nat} {e : Kd β} {Wf' : β → Prop} (ho : f.offset = off) (h : Op P f.type d Wf) (hs : OpF P fs (off + d.sz) e Wf') : OpF P (f :: fs) off (Kd.pair d e) (fun x => Wf x.1 ∧ Wf' x.2) := by
  intro H enc w fuel cs hl hx
  have hl' : off + (d.sz + e.sz) ≤ cs.length := hl
  obtain ⟨x, hx0⟩ := hx f (by simp)
  rw [ho, h.1] at hx0
  obtain ⟨a, ha, hwa⟩ := h.2 H enc w fuel _ x hx0
  obtain ⟨b, hb, hwb⟩ := hs H enc w fuel cs (by omega) (fun g hg => hx g (List.mem_cons_of_mem _ hg))
  refine ⟨(a, b), ⟨_, _, ?_, ha, hb⟩, hwa, hwb⟩
  show (cs.drop off).take (d.sz + e.sz) = _
  rw [List.take_add, List.drop_drop]
theorem op_struct {fs : Array Field} (hu : P.underlying T = some (.struct fs)) (hc : P.cellsOf T = d.sz) (h : OpF P fs.toList 0 d Wf) : Op P T d Wf := by
  refine ⟨hc, fun H enc w fuel cs x hx => ?_⟩
  obtain ⟨xs, n, _, _, hl, hlen, hf⟩ := DataW.trod_struct hu hx
  have := h H enc w n cs (by omega) (fun f hfm => by
    obtain ⟨i, hi, rfl⟩ := List.mem_iff_getElem.1 hfm
    have hi' : i < fs.size := by simpa using hi
    refine ⟨xs[i]'(by omega), ?_⟩
    rw [hf i _ (by rw [Array.getElem?_eq_getElem hi']; simp), List.getElem?_eq_getElem])
  rw [List.drop_zero, List.take_of_length_le (by omega)] at this
  exact this
theorem op_iso {f : β → α} (h : Op P T d Wf) (g : α → β) (hg : ∀ a, f (g a) = a) : Op P T (Kd.iso d f) (fun b => Wf (f b)) :=
  ⟨h.1, fun H enc w fuel cs x hx => by
    obtain ⟨a, h1, h2⟩ := h.2 H enc w fuel cs x hx
    exact ⟨g a, by show d.K w (f (g a)) cs; rw [hg]; exact h1, by show Wf (f (g a)); rw [hg]; exact h2⟩⟩
/-- An array's elements. -/
theorem op_array [Inhabited α] {n : Nat} {e : TypeId} (hu : P.underlying T = some (.array n e)) (h : Op P e d Wf) {H : Type} {enc : TypeId × Value → H} {w : World} {fuel : Nat} {cs : List Value} {x : DataW H × List MemPlace}
    (hx : DataW.trod enc P w 0 (fun _ => true) true fuel T cs = some x) : cs.length = P.cellsOf T ∧ ∃ f : Nat → α, ∀ i, i < n → d.K w (f i) ((cs.drop (i * d.sz)).take d.sz) ∧ Wf (f i) := by
  cases fuel with
  | zero => simp [DataW.trod] at hx
  | succ m =>
    unfold DataW.trod at hx
    simp only [hu] at hx
    split at hx
    · rename_i hl
      refine ⟨hl, ?_⟩
      obtain ⟨xs, hxs, _⟩ := Option.map_eq_some_iff.1 hx
      have key : ∀ i, i < n → ∃ y : α, d.K w y ((cs.drop (i * d.sz)).take d.sz) ∧ Wf y := by
        intro i hi
        have := mapM_some_get hxs i i (by simp [hi])
        rw [h.1] at this
        have hlen := mapM_some_length hxs
        rw [List.length_range] at hlen
        rw [List.getElem?_eq_getElem (by omega)] at this
        exact h.2 H enc w m _ _ this
      exact Go.Deep.choose_lt key
    · simp at hx
theorem okWide_array {n : Nat} {e : TypeId} {w : World} {r : Reach} {base : Nat} {v : Value} (ht : P.underlying T = some (.array n e)) (h : Value.okWide P w r base T v) : ∃ cs, v = .agg cs := by
  simp only [Value.okWide, ht] at h
  obtain ⟨cs, h1, _⟩ := h
  exact ⟨cs, h1⟩
theorem cell_at {w : World} {k : IntKind} {x : Int} {l : List Value} {i : Nat} (h : (Kd.int k).K w x ((l.drop (i * 1)).take 1)) : l[i]? = some (.int k x) := by
  have h' : (l.drop (i * 1)).take 1 = [.int k x] := h
  have : ((l.drop (i * 1)).take 1)[0]? = some (.int k x) := by rw [h']; rfl
  simpa [List.getElem?_take, List.getElem?_drop] using this
theorem arr2_int {k : IntKind} {e : TypeId} {cs : Array Value} {H : Type} {enc : TypeId × Value → H} {w : World} {dd : DataW H} {ps : List MemPlace} (hu : P.underlying T = some (.array 2 e)) (he : P.underlying e = some (.int k)) (hc : P.cellsOf e = 1) (hT : P.cellsOf T = 2)
    (h : DataW.Trod enc P w 0 (fun _ => true) true T (.agg cs) dd ps) : ∃ x0 x1 : Int, cs = #[.int k x0, .int k x1] ∧ (Lit.int k x0).wf = true ∧ (Lit.int k x1).wf = true := by
  obtain ⟨fuel, hf⟩ := h
  obtain ⟨hl, f, hx⟩ := op_array hu (op_int he hc) hf
  rw [hT] at hl
  have hl' : cs.toList.length = 2 := hl
  have e0 := cell_at (l := cs.toList) (i := 0) (hx 0 (by decide)).1
  have e1 := cell_at (l := cs.toList) (i := 1) (hx 1 (by decide)).1
  refine ⟨f 0, f 1, ?_, (hx 0 (by decide)).2, (hx 1 (by decide)).2⟩
  apply Array.ext'
  apply List.ext_getElem?
  intro i
  match i with
  | 0 => exact e0
  | 1 => exact e1
  | i + 2 => simp; simp at hl'; omega
theorem arr3_int {k : IntKind} {e : TypeId} {cs : Array Value} {H : Type} {enc : TypeId × Value → H} {w : World} {dd : DataW H} {ps : List MemPlace} (hu : P.underlying T = some (.array 3 e)) (he : P.underlying e = some (.int k)) (hc : P.cellsOf e = 1) (hT : P.cellsOf T = 3)
    (h : DataW.Trod enc P w 0 (fun _ => true) true T (.agg cs) dd ps) : ∃ x0 x1 x2 : Int, cs = #[.int k x0, .int k x1, .int k x2] ∧ (Lit.int k x0).wf = true ∧ (Lit.int k x1).wf = true ∧ (Lit.int k x2).wf = true := by
  obtain ⟨fuel, hf⟩ := h
  obtain ⟨hl, f, hx⟩ := op_array hu (op_int he hc) hf
  rw [hT] at hl
  have hl' : cs.toList.length = 3 := hl
  have e0 := cell_at (l := cs.toList) (i := 0) (hx 0 (by decide)).1
  have e1 := cell_at (l := cs.toList) (i := 1) (hx 1 (by decide)).1
  have e2 := cell_at (l := cs.toList) (i := 2) (hx 2 (by decide)).1
  refine ⟨f 0, f 1, f 2, ?_, (hx 0 (by decide)).2, (hx 1 (by decide)).2, (hx 2 (by decide)).2⟩
  apply Array.ext'
  apply List.ext_getElem?
  intro i
  match i with
  | 0 => exact e0
  | 1 => exact e1
  | 2 => exact e2
  | i + 3 => simp; simp at hl'; omega
end
end Go.Proofs.Ytblpaolcgkjcgaa.Opens
