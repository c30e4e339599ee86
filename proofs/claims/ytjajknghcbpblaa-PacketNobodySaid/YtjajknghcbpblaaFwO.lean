/- What came in, by its type: numbers, bits, strings, structs and arrays of these, and slices of these; as cells and read-only blocks of the own machine. -/
import Derived.Test.YtjajknghcbpblaaFwM
import Derived.ProofKit
import Derived.Carry
import Derived.Deep.Slices
set_option linter.unusedVariables false
set_option linter.unusedSimpArgs false
namespace Go.Proofs.Ytjajknghcbpblaa.FW
/-- How cells lie: 'pair' is one after the other. -/
inductive D where
  | int (k : IntKind) | bool | str | nil
  | pair (a b : D)
  | slc (d : D)
def D.sz : D → Nat
  | .int _ | .bool | .str | .slc _ => 1
  | .nil => 0
  | .pair a b => a.sz + b.sz
def D.flat : D → Bool
  | .slc _ => false
  | .pair a b => a.flat && b.flat
  | _ => true
def Shp : D → Heap → List Value → Prop
  | .int k, _, vs => ∃ n, vs = [.int k n] ∧ (Lit.int k n).wf = true
  | .bool, _, vs => ∃ b, vs = [.bool b]
  | .str, _, vs => ∃ s, vs = [.string s] ∧ s.size ≤ maxLen
  | .nil, _, vs => vs = []
  | .pair a b, H, vs => ∃ x y, vs = x ++ y ∧ Shp a H x ∧ Shp b H y
  | .slc d, H, vs => ∃ (q : Option Addr) (c : Nat) (es : List (List Value)), vs = [.slice q es.length c] ∧ es.length ≤ c ∧ c ≤ maxLen ∧ (∀ e ∈ es, Shp d H e) ∧ Shows H q es.flatten
theorem Shp.len : ∀ {d : D} {H : Heap} {vs : List Value}, Shp d H vs → vs.length = d.sz := by
  intro d
  induction d with
  | int k => intro H vs h; obtain ⟨n, rfl, _⟩ := h; rfl
  | bool => intro H vs h; obtain ⟨n, rfl⟩ := h; rfl
  | str => intro H vs h; obtain ⟨n, rfl, _⟩ := h; rfl
  | nil => intro H vs h; have : vs = [] := h; subst this; rfl
  | pair a b iha ihb => intro H vs h; obtain ⟨x, y, rfl, h1, h2⟩ := h; simp [D.sz, iha h1, ihb h2]
  | slc d ih => intro H vs h; obtain ⟨q, c, es, rfl, _⟩ := h; rfl
theorem Shows.keep {H H' : Heap} {q : Option Addr} {cs : List Value} (h : Shows H q cs) (o : Old H.length H H') : Shows H' q cs := by
  rcases h with h | ⟨b, o', full, rfl, h1, h2, h3⟩
  · exact .inl h
  · exact .inr ⟨b, o', full, rfl, h1.old o h1.lt, h2, h3⟩
theorem Shp.keep : ∀ {d : D} {H H' : Heap} {vs : List Value}, Shp d H vs → Old H.length H H' → Shp d H' vs := by
  intro d
  induction d with
  | int k => intro H H' vs h _; exact h
  | bool => intro H H' vs h _; exact h
  | str => intro H H' vs h _; exact h
  | nil => intro H H' vs h _; exact h
  | pair a b iha ihb => intro H H' vs h o; obtain ⟨x, y, e, h1, h2⟩ := h; exact ⟨x, y, e, iha h1 o, ihb h2 o⟩
  | slc d ih => intro H H' vs h o; obtain ⟨q, c, es, e, h1, h2, h3, h4⟩ := h; exact ⟨q, c, es, e, h1, h2, fun x hx => ih (h3 x hx) o, h4.keep o⟩
theorem Shp.free : ∀ {d : D} {H : Heap} {vs : List Value}, d.flat = true → Shp d H vs → (∀ H', Shp d H' vs) ∧ vs.all (fun v => ptrFreeC v) = true := by
  intro d
  induction d with
  | int k => intro H vs _ h; obtain ⟨n, rfl, hw⟩ := h; exact ⟨fun _ => ⟨n, rfl, hw⟩, rfl⟩
  | bool => intro H vs _ h; obtain ⟨n, rfl⟩ := h; exact ⟨fun _ => ⟨n, rfl⟩, rfl⟩
  | str => intro H vs _ h; obtain ⟨n, rfl, hw⟩ := h; exact ⟨fun _ => ⟨n, rfl, hw⟩, rfl⟩
  | nil => intro H vs _ h; have : vs = [] := h; subst this; exact ⟨fun _ => rfl, rfl⟩
  | pair a b iha ihb =>
    intro H vs hf h
    simp only [D.flat, Bool.and_eq_true] at hf
    obtain ⟨x, y, rfl, h1, h2⟩ := h
    have g1 := iha hf.1 h1
    have g2 := ihb hf.2 h2
    exact ⟨fun H' => ⟨x, y, rfl, g1.1 H', g2.1 H'⟩, by rw [List.all_append, g1.2, g2.2]; rfl⟩
  | slc d ih => intro H vs hf h; cases hf
/-- All blocks below N are read-only. -/
def AllRo (N : Nat) (H : Heap) : Prop := ∀ b B, b < N → hblk H b = some B → B.ro = true
theorem AllRo.old {N : Nat} {H H' : Heap} (h : AllRo N H) (o : Old N H H') : AllRo N H' := fun b B hb hB => h b B hb (by rw [← o.2 b hb]; exact hB)
theorem Shows.idx_ro {N : Nat} {H : Heap} {q : Option Addr} {l size : Nat} {cs : List Value} (h : Shows H q cs) (hr : AllRo N H) (hb : cs = [] ∨ Below N q) (hl : l * size ≤ cs.length) {i : Int} (h0 : 0 ≤ i) (h1 : i < l) (hs : 0 < size)
    {p : Option Addr} (hp : ∀ (R : Type) (K : Option Addr → Option R), hidx q l i size K = K p) : isRo H p = true := by
  have hne : cs ≠ [] := by
    rintro rfl
    have : 1 * size ≤ l * size := Nat.mul_le_mul_right size (by omega)
    simp at hl; omega
  rcases h with h | ⟨b, o, full, rfl, ⟨B, h3, _⟩, _⟩
  · exact (hne h).elim
  · have h4 := hp (Option Addr) some
    simp only [hidx] at h4
    rw [if_pos ⟨h0, h1⟩] at h4
    cases h4
    have hb' := (hb.resolve_left hne) _ rfl
    simp only [isRo, h3]
    exact hr b B hb' h3
/-- The worlds' blocks that came in, read-only. -/
structure St (ρ : Ren) (H : Heap) (w : World) : Prop where
  rel : Rel ρ (hblk H) w
  dom : Dom ρ H.length
  ro : ∀ b B, hblk H b = some B → B.ro = true
theorem St.nil (w : World) : St (fun _ => none) [] w :=
  ⟨⟨fun b B hb => (by simp [hblk] at hb), fun b1 B1 b2 B2 x1 d1 x2 d2 hb => (by simp [hblk] at hb)⟩, fun _ _ => rfl, fun b B hb => by simp [hblk] at hb⟩
theorem St.add {ρ : Ren} {H : Heap} {w : World} (h : St ρ H w) (a : Addr) (vs cs : List Value) (hw : ∀ i v, cs[i]? = some v → w.cell? (a.add i) = some v) (hr : LRel ρ vs cs) (hone : vs.all oneC = true) :
    ∃ ρ' B, Le ρ ρ' ∧ St ρ' (H ++ [B]) w ∧ At ρ' H.length a.block a.off ∧ (vs ≠ [] → B = some ⟨vs, true, 0⟩) := by
  have hle : Le ρ (fun b => if b = H.length then some (a.block, a.off, 0) else ρ b) := by
    intro b x hb
    show (if b = H.length then _ else _) = _
    rw [if_neg (by rintro rfl; rw [h.dom _ (Nat.le_refl _)] at hb; cases hb)]; exact hb
  refine ⟨fun b => if b = H.length then some (a.block, a.off, 0) else ρ b, if vs = [] then none else some ⟨vs, true, 0⟩, hle, ⟨⟨fun b B hb => ?_, fun b1 B1 b2 B2 x1 d1 x2 d2 k1 k2 hne hro => ?_⟩, fun b hb => ?_, fun b B hb => ?_⟩, ⟨0, by simp⟩, fun hne => by rw [if_neg hne]⟩
  · rcases Nat.lt_or_ge b H.length with hlt | hge
    · rw [app_old hlt] at hb
      obtain ⟨b', d, m, arr, el, fr, e1, e2, e3, e4⟩ := h.rel.blk b B hb
      exact ⟨b', d, m, arr, el, fr, hle _ _ e1, e2, fun i v hv => (by obtain ⟨y, g1, g2⟩ := e3 i v hv; exact ⟨y, g1, g2.mono hle⟩), e4⟩
    · have hlt := hblk_lt hb
      have : b = H.length := by simp at hlt; omega
      subst this
      rw [app_new] at hb
      split at hb
      · cases hb
      · rename_i hne
        cases hb
        obtain ⟨c0, hc0⟩ : ∃ c0, cs[0]? = some c0 := by
          have : 0 < cs.length := by rw [← hr.1]; exact List.length_pos_iff.2 hne
          exact ⟨_, List.getElem?_eq_getElem this⟩
        have h0 := hw 0 c0 hc0
        have ha0 : a.add 0 = a := rfl
        rw [ha0] at h0
        unfold World.cell? at h0
        split at h0
        · rename_i arr el fr harr
          split at h0
          · cases h0
          · rename_i hsp
            refine ⟨a.block, a.off, 0, arr, el, fr, by simp, harr, fun i v hv => ?_, fun hro => (by cases hro), hone⟩
            obtain ⟨y, g1, g2⟩ := hr.get hv
            have hi := hw i y g1
            refine ⟨y, ?_, g2.mono hle⟩
            by_cases hz : i = 0
            · subst hz
              rw [ha0] at hi
              unfold World.cell? at hi
              rw [harr] at hi
              simp only at hi
              rw [if_neg hsp] at hi
              exact hi
            · unfold World.cell? Addr.add at hi
              rw [if_neg hz] at hi
              simp only [harr] at hi
              simpa using hi
        · cases h0
  · rcases Nat.lt_or_ge b1 H.length with hlt | hge
    · rw [app_old hlt] at k1; have := h.ro _ _ k1; rw [this] at hro; cases hro
    · have hlt := hblk_lt k1
      have : b1 = H.length := by simp at hlt; omega
      subst this
      rw [app_new] at k1
      split at k1
      · cases k1
      · cases k1; cases hro
  · have : H.length + 1 ≤ b := by simpa using hb
    show (if b = H.length then _ else _) = _
    rw [if_neg (by omega)]; exact h.dom b (by omega)
  · rcases Nat.lt_or_ge b H.length with hlt | hge
    · rw [app_old hlt] at hb; exact h.ro _ _ hb
    · have hlt := hblk_lt hb
      have : b = H.length := by simp at hlt; omega
      subst this
      rw [app_new] at hb
      split at hb
      · cases hb
      · cases hb; rfl
/-- A type's cells. -/
def dtF (rec : TypeId → Option D) (P : Program) : List Field → Nat → Option D
  | [], _ => some .nil
  | f :: fs, off => match rec f.type, dtF rec P fs (off + P.cellsOf f.type) with
    | some d, some e => bif Nat.beq f.offset off && Nat.beq (P.cellsOf f.type) d.sz then some (.pair d e) else none
    | _, _ => none
def dtA (d : D) : Nat → D
  | 0 => .nil
  | n + 1 => .pair d (dtA d n)
def DT (P : Program) : Nat → TypeId → Option D
  | 0, _ => none
  | n + 1, t => match P.underlying t with
    | some (.int k) => some (.int k)
    | some .bool => some .bool
    | some .string => some .str
    | some (.slice e) => match DT P n e with
      | some d => bif Nat.beq (P.cellsOf e) d.sz && !(Nat.beq d.sz 0) then some (.slc d) else none
      | none => none
    | some (.struct fs) => match dtF (DT P n) P fs.toList 0 with
      | some d => bif Nat.beq (P.cellsOf t) d.sz then some d else none
      | none => none
    | some (.array m e) => match DT P n e with
      | some d => bif Nat.beq (P.cellsOf e) d.sz && Nat.beq (P.cellsOf t) (m * d.sz) then some (dtA d m) else none
      | none => none
    | _ => none
theorem dtA_sz (d : D) : ∀ n, (dtA d n).sz = n * d.sz := by
  intro n
  induction n with
  | zero => simp [dtA, D.sz]
  | succ n ih => simp [dtA, D.sz, ih, Nat.add_mul, Nat.add_comm]
section opening
variable {P : Program} {H0 : Type} {enc : TypeId × Value → H0} {w : World}
theorem dtF_rec {n : Nat} (Q : D → List Value → Prop) (hnil : Q .nil []) (hpair : ∀ a b x y, Q a x → Q b y → Q (.pair a b) (x ++ y)) (ih : ∀ t d, DT P n t = some d → ∀ fuel cs x, DataW.trod enc P w 0 (fun _ => true) true fuel t cs = some x → Q d cs)
    {m : Nat} {cs : List Value} : ∀ (fs : List Field) (off : Nat) (d : D), dtF (DT P n) P fs off = some d → (∀ f ∈ fs, ∃ x, DataW.trod enc P w 0 (fun _ => true) true m f.type ((cs.drop f.offset).take (P.cellsOf f.type)) = some x) → Q d ((cs.drop off).take d.sz) := by
  intro fs
  induction fs with
  | nil => intro off d h _; cases h; simpa [D.sz] using hnil
  | cons f fs ihf =>
    intro off d h hx
    simp only [dtF] at h
    split at h
    · rename_i d1 e1 h1 h2
      cases hc : Nat.beq f.offset off && Nat.beq (P.cellsOf f.type) d1.sz with
      | false => rw [hc] at h; cases h
      | true =>
        rw [hc, cond_true] at h
        cases h
        rw [Bool.and_eq_true] at hc
        have q1 := Nat.eq_of_beq_eq_true hc.1
        have q2 := Nat.eq_of_beq_eq_true hc.2
        obtain ⟨x, hx0⟩ := hx f (by simp)
        have g1 := ih _ _ h1 _ _ _ hx0
        have g2 := ihf _ _ h2 (fun g hg => hx g (List.mem_cons_of_mem _ hg))
        rw [q1, q2] at g1
        rw [q2] at g2
        show Q _ ((cs.drop off).take (d1.sz + e1.sz))
        rw [List.take_add, List.drop_drop]
        exact hpair _ _ _ _ g1 g2
    · cases h
theorem dt_rec (Q : D → List Value → Prop) (hint : ∀ k n, (Lit.int k n).wf = true → Q (.int k) [.int k n]) (hbool : ∀ b, Q .bool [.bool b]) (hstr : ∀ s, s.size ≤ maxLen → Q .str [.string s]) (hnil : Q .nil []) (hpair : ∀ a b x y, Q a x → Q b y → Q (.pair a b) (x ++ y))
    (hslc : ∀ n e t d fuel cs x, P.underlying t = some (.slice e) → DT P n e = some d → (∀ fuel cs x, DataW.trod enc P w 0 (fun _ => true) true fuel e cs = some x → Q d cs) → P.cellsOf e = d.sz → 0 < d.sz → DataW.trod enc P w 0 (fun _ => true) true fuel t cs = some x → Q (.slc d) cs) :
    ∀ (n : Nat) (t : TypeId) (d : D), DT P n t = some d → ∀ fuel cs x, DataW.trod enc P w 0 (fun _ => true) true fuel t cs = some x → Q d cs := by
  intro n
  induction n with
  | zero => intro t d h; cases h
  | succ n ih =>
    intro t d h fuel cs x hx
    simp only [DT] at h
    split at h
    · rename_i k hu; cases h
      obtain ⟨m, rfl, _, hw⟩ := DataW.trod_int hu hx
      exact hint k m hw
    · rename_i hu; cases h
      obtain ⟨b, rfl, _⟩ := DataW.trod_bool hu hx
      exact hbool b
    · rename_i hu; cases h
      obtain ⟨s, rfl, _, hs⟩ := DataW.trod_string hu hx
      exact hstr s hs
    · rename_i e hu
      split at h
      · rename_i d1 h1
        cases hc : Nat.beq (P.cellsOf e) d1.sz && !(Nat.beq d1.sz 0) with
        | false => rw [hc] at h; cases h
        | true =>
          rw [hc, cond_true] at h; cases h
          simp only [Bool.and_eq_true, Bool.not_eq_true'] at hc
          refine hslc n e t d1 fuel cs x hu h1 (ih e d1 h1) (Nat.eq_of_beq_eq_true hc.1) ?_ hx
          rcases Nat.eq_zero_or_pos d1.sz with h0 | h0
          · rw [h0] at hc; have := hc.2; simp at this
          · exact h0
      · cases h
    · rename_i fs hu
      split at h
      · rename_i d1 h1
        cases hc : Nat.beq (P.cellsOf t) d1.sz with
        | false => rw [hc] at h; cases h
        | true =>
          rw [hc, cond_true] at h; cases h
          obtain ⟨xs, m, _, _, hl, hlen, hf⟩ := DataW.trod_struct hu hx
          have := dtF_rec (cs := cs) (m := m) Q hnil hpair (fun t d h fuel cs x => ih t d h fuel cs x) fs.toList 0 _ h1 (fun f hfm => by
            obtain ⟨i, hi, rfl⟩ := List.mem_iff_getElem.1 hfm
            have hi' : i < fs.size := by simpa using hi
            refine ⟨xs[i]'(by omega), ?_⟩
            rw [hf i _ (by rw [Array.getElem?_eq_getElem hi']; simp), List.getElem?_eq_getElem])
          rw [List.drop_zero, List.take_of_length_le (by rw [hl, Nat.eq_of_beq_eq_true hc]; exact Nat.le_refl _)] at this
          exact this
      · cases h
    · rename_i m e hu
      split at h
      · rename_i d1 h1
        cases hc : Nat.beq (P.cellsOf e) d1.sz && Nat.beq (P.cellsOf t) (m * d1.sz) with
        | false => rw [hc] at h; cases h
        | true =>
          rw [hc, cond_true] at h; cases h
          rw [Bool.and_eq_true] at hc
          have q1 := Nat.eq_of_beq_eq_true hc.1
          have q2 := Nat.eq_of_beq_eq_true hc.2
          cases fuel with
          | zero => simp [DataW.trod] at hx
          | succ fuel =>
            unfold DataW.trod at hx
            simp only [hu] at hx
            split at hx
            · rename_i hl
              obtain ⟨xs, hxs, _⟩ := Option.map_eq_some_iff.1 hx
              have key : ∀ i, i < m → Q d1 ((cs.drop (i * d1.sz)).take d1.sz) := by
                intro i hi
                have h3 := mapM_some_get hxs i i (by simp [hi])
                rw [q1] at h3
                have hlen := mapM_some_length hxs
                rw [List.length_range] at hlen
                rw [List.getElem?_eq_getElem (by omega)] at h3
                exact ih _ _ h1 _ _ _ h3
              have all : ∀ j, j ≤ m → Q (dtA d1 j) ((cs.drop ((m - j) * d1.sz)).take (j * d1.sz)) := by
                intro j
                induction j with
                | zero => intro _; simpa [dtA] using hnil
                | succ j ihj =>
                  intro hj
                  have k1 := key (m - (j + 1)) (by omega)
                  have k2 := ihj (by omega)
                  have := hpair _ _ _ _ k1 k2
                  rw [show (j + 1) * d1.sz = d1.sz + j * d1.sz from by rw [Nat.add_mul]; omega, List.take_add, List.drop_drop]
                  rw [show (m - j) * d1.sz = (m - (j + 1)) * d1.sz + d1.sz from by rw [show m - j = (m - (j + 1)) + 1 from by omega, Nat.add_mul]; omega] at this
                  exact this
              have := all m (Nat.le_refl _)
              rw [Nat.sub_self, Nat.zero_mul, List.drop_zero, List.take_of_length_le (by rw [hl, q2]; exact Nat.le_refl _)] at this
              exact this
            · simp at hx
      · cases h
    · cases h
theorem flat_open {n : Nat} {t : TypeId} {d : D} (h : DT P n t = some d) (hf : d.flat = true) {fuel : Nat} {cs : List Value} {x : DataW H0 × List MemPlace} (hx : DataW.trod enc P w 0 (fun _ => true) true fuel t cs = some x) : Shp d [] cs :=
  dt_rec (enc := enc) (w := w) (fun d cs => d.flat = true → Shp d [] cs) (fun k n hw _ => ⟨n, rfl, hw⟩) (fun b _ => ⟨b, rfl⟩) (fun s hs _ => ⟨s, rfl, hs⟩) (fun _ => rfl)
    (fun a b x y h1 h2 hf => by
      simp only [D.flat, Bool.and_eq_true] at hf
      exact ⟨x, y, rfl, h1 hf.1, h2 hf.2⟩) (fun n e t d fuel cs x _ _ _ _ _ _ hf => by cases hf) n t d h fuel cs x hx hf
/-- Cells, met in the own machine. -/
def Opn (w : World) (d : D) (cs : List Value) : Prop := ∀ (ρ : Ren) (H : Heap), St ρ H w → ∃ ρ' J vs, Le ρ ρ' ∧ St ρ' (H ++ J) w ∧ LRel ρ' vs cs ∧ Shp d (H ++ J) vs ∧ vs.all oneC = true ∧ vs.all okv = true
theorem opn_flat {d : D} {cs : List Value} (hf : d.flat = true) (h : Shp d [] cs) : Opn w d cs := by
  intro ρ H hS
  have hfr := h.free hf
  refine ⟨ρ, [], cs, .refl _, by simpa using hS, ⟨rfl, fun i x y e1 e2 => ?_⟩, by simpa using hfr.1 H, ?_, ?_⟩
  · rw [e1] at e2; cases e2
    have := List.all_eq_true.1 hfr.2 x (List.mem_of_getElem? e1)
    exact VRel.self (ptrFree_of this) (okv_of this) ρ
  · exact oneCs_of hfr.2
  · exact List.all_eq_true.2 fun v hv => okv_of (List.all_eq_true.1 hfr.2 v hv)
theorem flatten_get {sz : Nat} (hs : 0 < sz) : ∀ (es : List (List Value)), (∀ e ∈ es, e.length = sz) → ∀ j, es.flatten[j]? = (es[j / sz]?).bind (·[j % sz]?) := by
  intro es
  induction es with
  | nil => intro _ j; simp
  | cons e es ih =>
    intro h j
    have he := h e (by simp)
    rw [List.flatten_cons, List.getElem?_append]
    split
    · rename_i hj
      rw [he] at hj
      rw [Nat.div_eq_of_lt hj, Nat.mod_eq_of_lt hj]; rfl
    · rename_i hj
      obtain ⟨i, rfl⟩ : ∃ i, j = i + sz := ⟨j - sz, by omega⟩
      rw [he, Nat.add_sub_cancel, ih (fun x hx => h x (List.mem_cons_of_mem _ hx)), Nat.add_div_right _ hs, Nat.add_mod_right, List.getElem?_cons_succ]
theorem flatten_len {sz : Nat} : ∀ (es : List (List Value)), (∀ e ∈ es, e.length = sz) → es.flatten.length = es.length * sz := by
  intro es
  induction es with
  | nil => intro _; simp
  | cons e es ih => intro h; rw [List.flatten_cons, List.length_append, ih (fun x hx => h x (List.mem_cons_of_mem _ hx)), h e (by simp), List.length_cons, Nat.add_mul]; omega
/-- Elements, met one after the other. -/
theorem opn_list {d : D} : ∀ (css : List (List Value)), (∀ cs ∈ css, Opn w d cs) → ∀ (ρ : Ren) (H : Heap), St ρ H w → ∃ (ρ' : Ren) (J : Heap) (es : List (List Value)), Le ρ ρ' ∧ St ρ' (H ++ J) w ∧ es.length = css.length ∧ LRel ρ' es.flatten css.flatten ∧ (∀ e ∈ es, Shp d (H ++ J) e) ∧ es.flatten.all oneC = true := by
  intro css
  induction css with
  | nil => intro _ ρ H hS; exact ⟨ρ, [], [], .refl _, by simpa using hS, rfl, .nil, (fun e he => by cases he), rfl⟩
  | cons cs css ih =>
    intro h ρ H hS
    obtain ⟨ρ1, J1, v1, q1, q2, q3, q4, q5, q6⟩ := h cs (by simp) ρ H hS
    obtain ⟨ρ2, J2, es, r1, r2, r3, r4, r5, r6⟩ := ih (fun x hx => h x (List.mem_cons_of_mem _ hx)) ρ1 (H ++ J1) q2
    refine ⟨ρ2, J1 ++ J2, v1 :: es, q1.trans r1, by rw [← List.append_assoc]; exact r2, by simp [r3], ?_, fun e he => ?_, ?_⟩
    · rw [List.flatten_cons, List.flatten_cons]; exact (q3.mono r1).append r4
    · rw [← List.append_assoc]
      rcases List.mem_cons.1 he with rfl | he
      · exact q4.keep (Old.app _ _)
      · exact r5 e he
    · rw [List.flatten_cons, List.all_append, q5, r6]; rfl
theorem opn_slice {n : Nat} {e t : TypeId} {d : D} {fuel : Nat} {cs : List Value} {x : DataW H0 × List MemPlace} (hu : P.underlying t = some (.slice e)) (hd : DT P n e = some d) (ho : ∀ fuel cs x, DataW.trod enc P w 0 (fun _ => true) true fuel e cs = some x → Opn w d cs) (hz : P.cellsOf e = d.sz) (h0 : 0 < d.sz)
    (hx : DataW.trod enc P w 0 (fun _ => true) true fuel t cs = some x) : Opn w (.slc d) cs := by
  intro ρ H hS
  rcases Go.Deep.open_slice hu hx with ⟨rfl, _⟩ | ⟨a, len, cap, m, k, D0, Pl, rfl, _, hl, hm, hmm, _, hel⟩
  · exact ⟨ρ, [], [.slice none 0 0], .refl _, by simpa using hS, LRel.cons (.nils 0 0) .nil, ⟨none, 0, [], rfl, Nat.le_refl _, Nat.zero_le _, (fun e he => by cases he), .inl rfl⟩, rfl, rfl⟩
  · have hcap : m = cap := by rw [hmm]; simp
    subst hcap
    by_cases hm0 : m = 0
    · subst hm0
      have : len = 0 := by omega
      subst this
      exact ⟨ρ, [], [.slice (some ⟨0, 0, none⟩) 0 0], .refl _, by simpa using hS, LRel.cons (.slz _ _) .nil, ⟨some ⟨0, 0, none⟩, 0, [], rfl, Nat.le_refl _, Nat.zero_le _, (fun e he => by cases he), .inl rfl⟩, rfl, rfl⟩
    · have hspot : a.spot = none := by
        obtain ⟨cs', h1, _⟩ := hel 0 (by omega)
        have := (World.cells?_some h1).2.2 0 (by omega)
        rw [hz] at h1
        have hlen := (World.cells?_some h1).2.1
        rw [Nat.zero_mul] at this
        have e0 : (a.add 0).add 0 = a := rfl
        rw [e0, List.getElem?_eq_getElem (by omega)] at this
        unfold World.cell? at this
        split at this
        · split at this
          · cases this
          · rename_i hs; simpa using hs
        · cases this
      have key : ∀ i, i < len → ∃ cs' : List Value, cs'.length = d.sz ∧ (∀ r v, cs'[r]? = some v → w.cell? (a.add (i * d.sz + r)) = some v) ∧ Opn w d cs' := by
        intro i hi
        obtain ⟨cs', h1, h2⟩ := hel i (by omega)
        refine ⟨cs', by rw [← hz]; exact (World.cells?_some h1).2.1, fun r v hv => ?_, ho _ _ _ h2⟩
        rw [hz] at h1
        have hr : r < d.sz := by
          have := (List.getElem?_eq_some_iff.1 hv).1
          rwa [(World.cells?_some h1).2.1] at this
        have := (World.cells?_some h1).2.2 r hr
        rw [Go.Deep.add_add] at this
        rw [this, hv]
      obtain ⟨f, hfk⟩ := Go.Deep.choose_lt key
      have hes : ∀ e ∈ (List.range len).map f, e.length = d.sz := by
        intro e he
        obtain ⟨i, hi, rfl⟩ := List.mem_map.1 he
        exact (hfk i (List.mem_range.1 hi)).1
      obtain ⟨ρ1, J1, es, g1, g2, g3, g4, g5, g6⟩ := opn_list ((List.range len).map f) (fun e he => by
        obtain ⟨i, hi, rfl⟩ := List.mem_map.1 he
        exact (hfk i (List.mem_range.1 hi)).2.2) ρ H hS
      obtain ⟨ρ', B, hle, hS', hat, hB⟩ := g2.add a es.flatten ((List.range len).map f).flatten (fun j v hv => by
        rw [flatten_get h0 _ hes] at hv
        obtain ⟨e, he, hv⟩ := Option.bind_eq_some_iff.1 hv
        rw [List.getElem?_map] at he
        obtain ⟨i, hi, rfl⟩ := Option.map_eq_some_iff.1 he
        have hilt : j / d.sz < len := by
          have := (List.getElem?_eq_some_iff.1 hi).1
          simpa using this
        have hii : i = j / d.sz := by simpa [List.getElem?_range hilt] using hi.symm
        subst hii
        have := (hfk (j / d.sz) hilt).2.1 _ _ hv
        rwa [Nat.div_add_mod' j d.sz] at this) g4 g6
      have haddr : a = ⟨a.block, a.off + 0, none⟩ := by cases a; simp at hspot; subst hspot; rfl
      have hlen : es.length = len := by rw [g3]; simp
      refine ⟨ρ', J1 ++ [B], [.slice (some ⟨(H ++ J1).length, 0, none⟩) len m], g1.trans hle, by rw [← List.append_assoc]; exact hS', LRel.cons ?_ .nil, ⟨some ⟨(H ++ J1).length, 0, none⟩, m, es, by rw [hlen], by rw [hlen]; exact hl, hm, fun e he => ?_, ?_⟩, rfl, rfl⟩
      · rw [haddr]
        exact .slc hat (.inl rfl) hl (fun hh _ => by unfold maxLen at hm; unfold unk at hh; omega)
      · rw [← List.append_assoc]; exact (g5 e he).keep (Old.app _ _)
      · by_cases hne : es.flatten = []
        · exact .inl hne
        · exact Sees.shows ⟨_, by rw [← List.append_assoc, app_new]; exact hB hne, rfl⟩
theorem opn_pair {a b : D} {x y : List Value} (h1 : Opn w a x) (h2 : Opn w b y) : Opn w (.pair a b) (x ++ y) := by
  intro ρ H hS
  obtain ⟨ρ1, J1, v1, q1, q2, q3, q4, q5, q6⟩ := h1 ρ H hS
  obtain ⟨ρ2, J2, v2, r1, r2, r3, r4, r5, r6⟩ := h2 ρ1 (H ++ J1) q2
  refine ⟨ρ2, J1 ++ J2, v1 ++ v2, q1.trans r1, by rw [← List.append_assoc]; exact r2, (q3.mono r1).append r3, ⟨v1, v2, rfl, ?_, ?_⟩, by rw [List.all_append, q5, r5]; rfl, by rw [List.all_append, q6, r6]; rfl⟩
  · rw [← List.append_assoc]; exact q4.keep (Old.app _ _)
  · rw [← List.append_assoc]; exact r4
/-- What came in of a type, met in the own machine. -/
theorem opn_open {n : Nat} {t : TypeId} {d : D} (h : DT P n t = some d) {fuel : Nat} {cs : List Value} {x : DataW H0 × List MemPlace} (hx : DataW.trod enc P w 0 (fun _ => true) true fuel t cs = some x) : Opn w d cs :=
  dt_rec (enc := enc) (w := w) (fun d cs => Opn w d cs) (fun k n hw => opn_flat rfl ⟨n, rfl, hw⟩) (fun b => opn_flat rfl ⟨b, rfl⟩) (fun s hs => opn_flat rfl ⟨s, rfl, hs⟩) (opn_flat rfl rfl)
    (fun a b x y h1 h2 => opn_pair h1 h2) (fun n e t d fuel cs x hu hd ho hz h0 hx => opn_slice hu hd ho hz h0 hx) n t d h fuel cs x hx
/-- An argument, met in the own machine. -/
def isAggT (P : Program) (t : TypeId) : Bool := match P.underlying t with
  | some (.struct _) | some (.array _ _) => true
  | _ => false
def Lies (d : D) (ag : Bool) (H : Heap) (v : Value) : Prop := if ag then ∃ vs, v = .agg ⟨vs⟩ ∧ Shp d H vs else Shp d H [v]
theorem Lies.keep {d : D} {ag : Bool} {H H' : Heap} {v : Value} (h : Lies d ag H v) (o : Old H.length H H') : Lies d ag H' v := by
  unfold Lies at *
  cases ag with
  | true => obtain ⟨vs, e, h⟩ := h; exact ⟨vs, e, h.keep o⟩
  | false => exact Shp.keep h o
def Arg (w : World) (d : D) (ag : Bool) (v : Value) : Prop := ∀ (ρ : Ren) (H : Heap), St ρ H w → ∃ ρ' J v', Le ρ ρ' ∧ St ρ' (H ++ J) w ∧ VRel ρ' v' v ∧ Lies d ag (H ++ J) v'
theorem arg_one {d : D} {v : Value} (hp : Opn w d [v]) : Arg w d false v := by
  intro ρ H hS
  obtain ⟨ρ', J, vs, h1, h2, h3, h4, _, _⟩ := hp ρ H hS
  match vs, h3.1 with
  | [v'], _ => exact ⟨ρ', J, v', h1, h2, h3.2 0 v' v rfl rfl, h4⟩
theorem arg_agg {d : D} {cs : Array Value} (hp : Opn w d cs.toList) : Arg w d true (.agg cs) := by
  intro ρ H hS
  obtain ⟨ρ', J, vs, h1, h2, h3, h4, _, _⟩ := hp ρ H hS
  exact ⟨ρ', J, .agg ⟨vs⟩, h1, h2, .agg (xs' := cs.toList) h3.1 h3.2, vs, rfl, h4⟩
theorem arg_open {n : Nat} {t : TypeId} {d : D} (hd : DT P n t = some d) {base : Nat} {v : Value} (hv : Value.okWide P w .any base t v) {dd : DataW H0} {ps : List MemPlace} (h : DataW.Trod enc P w 0 (fun _ => true) true t v dd ps) : Arg w d (isAggT P t) v := by
  obtain ⟨fuel, hf⟩ := h
  cases n with
  | zero => cases hd
  | succ n =>
    have hd0 := hd
    simp only [DT] at hd
    unfold isAggT
    split at hd
    · rename_i k hu
      obtain ⟨m, rfl⟩ := Go.WideShapes.okWide_int hu hv
      simp only [hu]
      exact arg_one (opn_open hd0 hf)
    · rename_i hu
      obtain ⟨m, rfl⟩ := Go.WideShapes.okWide_bool hu hv
      simp only [hu]
      exact arg_one (opn_open hd0 hf)
    · rename_i hu
      obtain ⟨m, rfl⟩ := Go.WideShapes.okWide_string hu hv
      simp only [hu]
      exact arg_one (opn_open hd0 hf)
    · rename_i e hu
      obtain ⟨a, l, c, rfl⟩ := Go.WideShapes.okWide_slice hu hv
      simp only [hu]
      exact arg_one (opn_open hd0 hf)
    all_goals first | (rename_i fs hu; simp only [hu]; simp only [Value.okWide, hu] at hv; obtain ⟨cs, rfl, _, ts, _, _, hrow⟩ := hv; exact arg_agg (opn_open hd0 hf)) | skip
    all_goals first | (rename_i m e hu; simp only [hu]; simp only [Value.okWide, hu] at hv; obtain ⟨cs, rfl, _, ts, _, _, hrow⟩ := hv; exact arg_agg (opn_open hd0 hf)) | skip
    cases hd
theorem arg_in {n : Nat} {t : TypeId} {d : D} (hd : DT P n t = some d) {ag : Bool} (ha : isAggT P t = ag) {base : Nat} {v : Value} (hv : Value.okWide P w .any base t v) {dd : DataW H0} {ps : List MemPlace} (h : DataW.Trod enc P w 0 (fun _ => true) true t v dd ps) : Arg w d ag v := ha ▸ arg_open hd hv h
def AllArg (w : World) : List (D × Bool) → List Value → Prop
  | [], [] => True
  | (d, ag) :: ds, v :: vs => Arg w d ag v ∧ AllArg w ds vs
  | _, _ => False
def AllLies (H : Heap) : List (D × Bool) → List Value → Prop
  | [], [] => True
  | (d, ag) :: ds, v :: vs => Lies d ag H v ∧ AllLies H ds vs
  | _, _ => False
theorem lies_nil {H : Heap} {us : List Value} (h : AllLies H [] us) : us = [] := by
  cases us with
  | nil => rfl
  | cons u us => exact h.elim
theorem lies_cons {d : D} {ag : Bool} {ds : List (D × Bool)} {H : Heap} {us : List Value} (h : AllLies H ((d, ag) :: ds) us) : ∃ u vs, us = u :: vs ∧ Lies d ag H u ∧ AllLies H ds vs := by
  cases us with
  | nil => exact h.elim
  | cons u us => exact ⟨u, us, rfl, h.1, h.2⟩
theorem lies_int {k : IntKind} {ds : List (D × Bool)} {H : Heap} {us : List Value} (h : AllLies H ((.int k, false) :: ds) us) : ∃ n vs, us = .int k n :: vs ∧ (Lit.int k n).wf = true ∧ AllLies H ds vs := by
  obtain ⟨u, vs, rfl, h1, h2⟩ := lies_cons h
  obtain ⟨n, e, hw⟩ := h1
  cases e
  exact ⟨n, vs, rfl, hw, h2⟩
theorem lies_bool {ds : List (D × Bool)} {H : Heap} {us : List Value} (h : AllLies H ((.bool, false) :: ds) us) : ∃ b vs, us = .bool b :: vs ∧ AllLies H ds vs := by
  obtain ⟨u, vs, rfl, h1, h2⟩ := lies_cons h
  obtain ⟨n, e⟩ := h1
  cases e
  exact ⟨n, vs, rfl, h2⟩
theorem lies_agg {d : D} {ds : List (D × Bool)} {H : Heap} {us : List Value} (h : AllLies H ((d, true) :: ds) us) : ∃ cs vs, us = .agg ⟨cs⟩ :: vs ∧ Shp d H cs ∧ AllLies H ds vs := by
  obtain ⟨u, vs, rfl, h1, h2⟩ := lies_cons h
  obtain ⟨cs, rfl, h3⟩ := h1
  exact ⟨cs, vs, rfl, h3, h2⟩
theorem lies_slc {d : D} {ds : List (D × Bool)} {H : Heap} {us : List Value} (h : AllLies H ((.slc d, false) :: ds) us) : ∃ (q : Option Addr) (c : Nat) (es : List (List Value)) (vs : List Value), us = .slice q es.length c :: vs ∧ es.length ≤ c ∧ c ≤ maxLen ∧ (∀ e ∈ es, Shp d H e) ∧ Shows H q es.flatten ∧ AllLies H ds vs := by
  obtain ⟨u, vs, rfl, h1, h2⟩ := lies_cons h
  obtain ⟨q, c, es, e, g1, g2, g3, g4⟩ := h1
  cases e
  exact ⟨q, c, es, vs, rfl, g1, g2, g3, g4, h2⟩
theorem all_args : ∀ (ds : List (D × Bool)) (vs : List Value), AllArg w ds vs → ∀ (ρ : Ren) (H : Heap), St ρ H w → ∃ ρ' J us, Le ρ ρ' ∧ St ρ' (H ++ J) w ∧ LRel ρ' us vs ∧ AllLies (H ++ J) ds us := by
  intro ds
  induction ds with
  | nil =>
    intro vs h ρ H hS
    cases vs with
    | nil => exact ⟨ρ, [], [], .refl _, by simpa using hS, .nil, trivial⟩
    | cons v vs => exact h.elim
  | cons x ds ih =>
    intro vs h ρ H hS
    cases vs with
    | nil => obtain ⟨d, ag⟩ := x; exact h.elim
    | cons v vs =>
      obtain ⟨d, ag⟩ := x
      obtain ⟨h1, h2⟩ := h
      obtain ⟨ρ1, J1, u, q1, q2, q3, q4⟩ := h1 ρ H hS
      obtain ⟨ρ2, J2, us, r1, r2, r3, r4⟩ := ih vs h2 ρ1 (H ++ J1) q2
      exact ⟨ρ2, J1 ++ J2, u :: us, q1.trans r1, by rw [← List.append_assoc]; exact r2, LRel.cons (q3.mono r1) r3, by rw [← List.append_assoc]; exact q4.keep (Old.app _ _), by rw [← List.append_assoc]; exact r4⟩
/-- A law of which the run is known for all that can come in. -/
theorem law_inR {f : Nat} {c : (R : Type) → Nat → List Value → Heap → (Value → Heap → Option R) → Option R} (hc : ∀ (R : Type) (k : Nat) args H K r, c R k args H K = some r → ∃ v H', Tri P f args H v H' ∧ K v H' = some r)
    {k : Nat} (ds : List (D × Bool)) (hrun : ∀ (H : Heap) (us : List Value), AllRo H.length H → AllLies H ds us → c Bool k us H asB = some true) (args : List Value) (ha : AllArg w ds args) : Calls P f ⟨args⟩ w fun e w' => e = .returned (.bool true) ∧ Go.RowKit.Below w.heap.size w w' := by
  obtain ⟨ρ, H, us, _, hS, hA, hL⟩ := all_args ds args ha (fun _ => none) [] (St.nil w)
  obtain ⟨v, H', h1, h2⟩ := hc Bool k us _ asB true (hrun _ us (fun b B _ hb => hS.ro b B hb) hL)
  unfold asB at h2
  split at h2
  · cases h2; exact law_ok h1 hS.rel hS.dom hA hS.ro
  · cases h2
theorem law_in {f : Nat} {c : (R : Type) → Nat → List Value → Heap → (Value → Heap → Option R) → Option R} (hc : ∀ (R : Type) (k : Nat) args H K r, c R k args H K = some r → ∃ v H', Tri P f args H v H' ∧ K v H' = some r)
    {k : Nat} (ds : List (D × Bool)) (hrun : ∀ (H : Heap) (us : List Value), AllLies H ds us → c Bool k us H asB = some true) (args : List Value) (ha : AllArg w ds args) : Calls P f ⟨args⟩ w fun e w' => e = .returned (.bool true) ∧ Go.RowKit.Below w.heap.size w w' :=
  law_inR hc ds (fun H us _ h => hrun H us h) args ha
end opening
end Go.Proofs.Ytjajknghcbpblaa.FW
