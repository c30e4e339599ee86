/- Each operation of the own machine stands for the model's: composite values, what is made. -/
import Derived.Test.YtjajknghcbpblaaFw5
import Derived.Laws.Tables
set_option linter.unusedVariables false
set_option linter.unusedSimpArgs false
namespace Go.Proofs.Ytjajknghcbpblaa.FW
variable {P : Program} {R : Type}
theorem cells_rel {ρ : Ren} {v v' : Value} (h : VRel ρ v v') : LRel ρ v.cells.toList v'.cells.toList := by
  cases h with
  | agg l k => exact ⟨l, k⟩
  | bool b => exact .cons (.bool b) .nil
  | int k n => exact .cons (.int k n) .nil
  | flt k b => exact .cons (.flt k b) .nil
  | str s => exact .cons (.str s) .nil
  | nilp => exact .cons .nilp .nil
  | ptr e => exact .cons (.ptr e) .nil
  | nils l c => exact .cons (.nils l c) .nil
  | slc e a b c => exact .cons (.slc e a b c) .nil
  | slz a a' => exact .cons (.slz a a') .nil
  | sle hp hc a' c' => exact .cons (.sle hp hc a' c') .nil
  | nilf => exact .cons .nilf .nil
  | nili => exact .cons .nili .nil
  | func f l1 h1 l2 h2 => exact .cons (.func f l1 h1 l2 h2) .nil
  | tup l k => exact .cons (.tup l k) .nil
theorem foldl_splice (off : Nat) : ∀ (l : List Value) (s : Nat) (cs : Array Value), off + s + l.length ≤ cs.size →
    ((l.zipIdx s).foldl (fun cs (x : Value × Nat) => cs.setIfInBounds (off + x.2) x.1) cs).toList = splice cs.toList (off + s) l := by
  intro l
  induction l with
  | nil => intro s cs _; simp [splice]
  | cons v l ih =>
    intro s cs h
    simp only [List.length_cons] at h
    simp only [List.zipIdx_cons, List.foldl_cons]
    rw [ih (s + 1) _ (by simp; omega)]
    simp only [splice, Array.toList_setIfInBounds, List.length_cons]
    have hlt : off + s < cs.toList.length := by simp; omega
    apply List.ext_getElem?
    intro i
    have e1 : (List.take (off + (s + 1)) (cs.toList.set (off + s) v)).length = off + (s + 1) := by simp; omega
    have e2 : (List.take (off + s) cs.toList).length = off + s := by simp; omega
    rw [List.append_assoc, List.append_assoc, List.getElem?_append, List.getElem?_append, List.getElem?_append, List.getElem?_append, e1, e2]
    by_cases c1 : i < off + s
    · rw [if_pos (by omega), if_pos c1, List.getElem?_take, List.getElem?_take, if_pos (by omega), if_pos c1, List.getElem?_set_ne (by omega)]
    · by_cases c2 : i = off + s
      · subst c2
        rw [if_pos (by omega), if_neg (by omega), if_pos (by simp), List.getElem?_take, if_pos (by omega), List.getElem?_set_self hlt]
        simp
      · rw [if_neg (by omega), if_neg c1]
        by_cases c3 : i < off + s + 1 + l.length
        · rw [if_pos (by omega), if_pos (by simp; omega)]
          rw [show i - (off + s) = (i - (off + (s + 1))) + 1 from by omega, List.getElem?_cons_succ]
        · rw [if_neg (by omega), if_neg (by simp; omega), List.getElem?_drop, List.getElem?_drop, List.getElem?_set_ne (by omega)]
          congr 1
          simp
          omega
theorem splice_rel {ρ : Ren} {l l' vs vs' : List Value} (h : LRel ρ l l') (k : LRel ρ vs vs') (o : Nat) : LRel ρ (splice l o vs) (splice l' o vs') := by
  unfold splice
  rw [← k.1]
  exact ((h.take o).append k).append (h.drop _)
theorem splice_length {l : List Value} {o : Nat} {vs : List Value} (h : o + vs.length ≤ l.length) : (splice l o vs).length = l.length := by
  simp [splice]; omega
def PRel (ρ : Ren) (place : Nat → Option (Nat × Nat)) : List (Nat × Nat × Value) → List (Nat × Value) → Prop
  | [], [] => True
  | (o, n, v) :: ps, (i, v') :: qs => place i = some (o, n) ∧ VRel ρ v v' ∧ PRel ρ place ps qs
  | _, _ => False
theorem fill_rel {ρ : Ren} {place : Nat → Option (Nat × Nat)} : ∀ {ps : List (Nat × Nat × Value)} {qs : List (Nat × Value)} {z cs : List Value} {z' : Array Value}, PRel ρ place ps qs → LRel ρ z z'.toList → hfill z ps = some cs →
    ∃ cs', Instr.fill place z' qs = some cs' ∧ LRel ρ cs cs'.toList := by
  intro ps
  induction ps with
  | nil =>
    intro qs z cs z' h hz hf
    cases qs with
    | nil => simp [hfill] at hf; subst hf; exact ⟨z', rfl, hz⟩
    | cons q qs => exact h.elim
  | cons p ps ih =>
    intro qs z cs z' h hz hf
    obtain ⟨o, n, v⟩ := p
    cases qs with
    | nil => exact h.elim
    | cons q qs =>
      obtain ⟨i, v'⟩ := q
      obtain ⟨h1, h2, h3⟩ := h
      simp only [hfill] at hf
      split at hf
      · rename_i hc
        have hv := cells_rel h2
        have hs : v'.cells.size = n := by have := hv.1; simp at this; omega
        have hl : z.length = z'.size := by simpa using hz.1
        have e1 : (v'.cells.zipIdx.foldl (fun cs (x : Value × Nat) => cs.setIfInBounds (o + x.2) x.1) z').toList = splice z'.toList o v'.cells.toList := by
          have := foldl_splice o v'.cells.toList 0 z' (by simp; omega)
          rw [← Array.foldl_toList]
          simpa using this
        obtain ⟨cs', h4, h5⟩ := ih h3 (z' := v'.cells.zipIdx.foldl (fun cs (x : Value × Nat) => cs.setIfInBounds (o + x.2) x.1) z') (by rw [e1]; exact splice_rel hz hv o) hf
        refine ⟨cs', ?_, h5⟩
        unfold Instr.fill
        simp only [h1]
        rw [if_neg (by simp [hs]; omega)]
        exact h4
      · cases hf
section pure
variable {o : Oper} {e : Env} {H : Heap} {K : Value → Heap → Option R} {r : R} {cr : Bool} {C : Tab R} {made : List (Nat × Nat × Nat)}
theorem ok_box {el : TypeId} {x : Operand} {x' : X} (ho : o.op = .box el x) (hx : trX x = some x') (hr : evOp C made (.box x') e H K = some r) : LocalOK P o e H K r true := by
  simp only [evOp] at hr
  cases hk2 : okv (gx e x') && (gx e x').cells.toList.all oneC with
  | false => rw [hk2] at hr; cases hr
  | true =>
    rw [hk2, cond_true] at hr
    rw [Bool.and_eq_true] at hk2
    obtain ⟨hk, hone⟩ := hk2
    refine new_ok _ _ 0 (fun _ _ _ _ _ _ => hone) hr fun ρ hp w a _ _ hE => ?_
    have q1 := (vx hE hx (by simp [ho, Op.operands])).rel hk
    refine ⟨(a.eval x).cells, el, .pointer (some ⟨w.heap.size, 0, none⟩), { w with heap := w.heap.push (.cells (a.eval x).cells el) }, 0, fun j y hj => ?_, by simp, fun ρ' h => .of (.ptr ⟨_, h⟩), ?_, rfl, rfl, rfl, rfl⟩
    · obtain ⟨z, h1, h2⟩ := (cells_rel q1).get hj
      exact ⟨z, by simpa using h1, h2⟩
    · simp [execOp, ho, Instr.box, newVar, newRow, newObj, Sem.run]
theorem prel_of {ρ : Ren} {a : Act} (hE : Reads ρ e a o) {pl : List (Nat × Nat)} : ∀ {parts : List (Nat × Operand)} {ys : List (Nat × Nat × X)}, places pl parts = some ys → (∀ p ∈ parts, p.2 ∈ o.op.operands) →
    (gps e ys).all (fun p => okv p.2.2) = true → PRel ρ (pl.toArray[·]?) (gps e ys) (parts.map fun (i, x) => (i, a.eval x)) := by
  intro parts
  induction parts with
  | nil => intro ys h _ _; simp [places] at h; subst h; trivial
  | cons p parts ih =>
    intro ys h hm hk
    obtain ⟨i, x⟩ := p
    simp only [places] at h
    split at h
    · rename_i o' n y zs h1 h2 h3
      cases h
      simp only [gps, List.all_cons, Bool.and_eq_true] at hk ⊢
      exact ⟨by simpa using h1, (vx hE h2 (hm (i, x) (by simp))).rel hk.1, ih h3 (fun z hz => hm z (by simp [hz])) hk.2⟩
    · cases h
theorem prelA_of {ρ : Ren} {a : Act} (hE : Reads ρ e a o) {n : Nat} : ∀ {parts : List (Nat × Operand)} {ys : List (Nat × Nat × X)}, placesA n parts = some ys → (∀ p ∈ parts, p.2 ∈ o.op.operands) →
    (gps e ys).all (fun p => okv p.2.2) = true → PRel ρ (fun i => some (i * n, n)) (gps e ys) (parts.map fun (i, x) => (i, a.eval x)) := by
  intro parts
  induction parts with
  | nil => intro ys h _ _; simp [placesA] at h; subst h; trivial
  | cons p parts ih =>
    intro ys h hm hk
    obtain ⟨i, x⟩ := p
    simp only [placesA] at h
    split at h
    · rename_i y zs h2 h3
      cases h
      simp only [gps, List.all_cons, Bool.and_eq_true] at hk ⊢
      exact ⟨rfl, (vx hE h2 (hm (i, x) (by simp))).rel hk.1, ih h3 (fun z hz => hm z (by simp [hz])) hk.2⟩
    · cases h
theorem zer_info {t : TypeId} {z : List Value} (hz : zer P t = some z) : ∃ i zv, P.info? t = some i ∧ i.zero = some zv ∧ zv.cells.toList = z := by
  unfold zer at hz
  cases h1 : P.info? t with
  | none => rw [h1] at hz; cases hz
  | some i =>
    rw [h1] at hz
    cases h2 : i.zero with
    | none => simp [h2] at hz
    | some zv => simp [h2] at hz; exact ⟨i, zv, rfl, h2, by simpa using hz⟩
theorem self_rel {ρ : Ren} {z : List Value} (hf : z.all ptrFreeC = true) : LRel ρ z z :=
  ⟨rfl, fun i x y a b => by rw [a] at b; cases b; have := List.all_eq_true.1 hf x (List.mem_of_getElem? a); exact VRel.self (ptrFree_of this) (okv_of this) ρ⟩
theorem ok_bld {u : TypeId} {parts : Array (Nat × Operand)} {fs : Array Field} {z : List Value} {pl : List (Nat × Nat)} {ps : List (Nat × Nat × X)} (hu : P.underlying u = some (.struct fs)) (hz : zer P u = some z) (hf : z.all ptrFreeC = true)
    (hpl : fs.toList.mapM (fun f => (P.info? f.type).map fun i => (f.offset, i.size)) = some pl) (hps : places pl parts.toList = some ps)
    (ho : o.op = .build u parts) (hr : evOp C made (.bld z ps) e H K = some r) : LocalOK P o e H K r cr := by
  simp only [evOp] at hr
  cases hk : (gps e ps).all (fun p => okv p.2.2) with
  | false => rw [hk] at hr; cases hr
  | true =>
    rw [hk, cond_true] at hr
    split at hr
    · rename_i cs hcs
      obtain ⟨it, zv, h1, h2, h3⟩ := zer_info hz
      refine pure_ok _ hr fun ρ hp w a _ _ hE => ?_
      have hp1 := prel_of hE hps (fun p hp => by simp [ho, Op.operands]; exact ⟨p.1, by simpa using hp⟩) hk
      obtain ⟨cs', h4, h5⟩ := fill_rel hp1 (z := z) (z' := zv.cells) (by rw [h3]; exact self_rel hf) hcs
      refine ⟨.agg cs', .of (.agg h5.1 h5.2), ?_⟩
      have h6 : P.built u (parts.map fun (i, x) => (i, a.eval x)).toList = some cs' := by
        unfold Program.built
        rw [h1, hu]
        simp only [h2, hpl]
        rw [← h4]
        simp
      simp only [execOp, ho, Sem.run_bind, run_build w u _ cs' h6, Result.andThen_ok, Sem.run_pure]
    · cases hr
theorem ok_bldA {u el : TypeId} {parts : Array (Nat × Operand)} {n m : Nat} {z : List Value} {ps : List (Nat × Nat × X)} (hu : P.underlying u = some (.array m el)) (hz : zer P u = some z) (hf : z.all ptrFreeC = true)
    (hs : sz P el = some n) (hps : placesA n parts.toList = some ps)
    (ho : o.op = .build u parts) (hr : evOp C made (.bld z ps) e H K = some r) : LocalOK P o e H K r cr := by
  simp only [evOp] at hr
  cases hk : (gps e ps).all (fun p => okv p.2.2) with
  | false => rw [hk] at hr; cases hr
  | true =>
    rw [hk, cond_true] at hr
    split at hr
    · rename_i cs hcs
      obtain ⟨it, zv, h1, h2, h3⟩ := zer_info hz
      refine pure_ok _ hr fun ρ hp w a _ _ hE => ?_
      have hp1 := prelA_of hE hps (fun p hp => by simp [ho, Op.operands]; exact ⟨p.1, by simpa using hp⟩) hk
      obtain ⟨cs', h4, h5⟩ := fill_rel hp1 (z := z) (z' := zv.cells) (by rw [h3]; exact self_rel hf) hcs
      refine ⟨.agg cs', .of (.agg h5.1 h5.2), ?_⟩
      have hi : ∃ ie, P.info? el = some ie ∧ ie.size = n := by
        unfold sz at hs
        cases q : P.info? el with
        | none => rw [q] at hs; cases hs
        | some ie => rw [q] at hs; simp at hs; exact ⟨ie, rfl, hs⟩
      obtain ⟨ie, g1, g2⟩ := hi
      have h6 : P.built u (parts.map fun (i, x) => (i, a.eval x)).toList = some cs' := by
        unfold Program.built
        rw [h1, hu]
        simp only [h2, g1, g2]
        rw [← h4]
        simp
      simp only [execOp, ho, Sem.run_bind, run_build w u _ cs' h6, Result.andThen_ok, Sem.run_pure]
    · cases hr
theorem rep_get {z : List Value} (h0 : z ≠ []) : ∀ (n i : Nat), i < n * z.length → (rep z n)[i]? = z[i % z.length]? := by
  have hpos : 0 < z.length := List.length_pos_iff.2 h0
  intro n
  induction n with
  | zero => intro i hi; simp at hi
  | succ n ih =>
    intro i hi
    simp only [rep]
    rw [List.getElem?_append]
    rw [Nat.add_mul, Nat.one_mul] at hi
    split
    · rename_i h; rw [Nat.mod_eq_of_lt h]
    · rename_i h
      rw [ih _ (by omega)]
      congr 1
      rw [← Nat.mod_eq_sub_mod (by omega)]
theorem rep_free {z : List Value} (hf : z.all ptrFreeC = true) (len : Nat) : (rep z len).all ptrFreeC = true := by
  induction len with
  | zero => rfl
  | succ k ih => rw [rep, List.all_append, hf, ih]; rfl
theorem rep_length (z : List Value) (n : Nat) : (rep z n).length = n * z.length := by
  induction n with
  | zero => simp [rep]
  | succ n ih => simp [rep, ih, Nat.add_mul]; omega
theorem mk_eq (z : List Value) (n : Nat) : mkCells z n = rep z n := by
  induction n with
  | zero => rfl
  | succ n ih => simp [mkCells, rep, ih]
theorem made_cells {zv : Array Value} {n m : Nat} (h0 : zv.toList ≠ []) (hm : m = n * zv.size) : ((Array.range m).map (zv[· % zv.size]!)).toList = rep zv.toList n := by
  have hpos : 0 < zv.size := by have := List.length_pos_iff.2 h0; simpa using this
  apply List.ext_getElem?
  intro i
  by_cases hi : i < m
  · rw [rep_get h0 n i (by simp; omega)]
    have h2 : i % zv.size < zv.size := Nat.mod_lt _ hpos
    simp [hi, h2]
  · have h1 : (rep zv.toList n).length ≤ i := by rw [rep_length]; simp; omega
    rw [List.getElem?_eq_none h1]
    simp [hi]
theorem ok_bls {u el : TypeId} {parts : Array (Nat × Operand)} {len n : Nat} {z : List Value} {ps : List (Nat × Nat × X)} (hu : P.underlying u = some (.slice el)) (hz : zer P el = some z) (hf : z.all ptrFreeC = true)
    (hs : sz P el = some n) (hn : n = z.length) (hn0 : n ≠ 0) (hl : len * n ≤ 16777216) (hps : placesA n parts.toList = some ps)
    (ho : o.op = .buildSlice u len parts) (hr : evOp C made (.bls len (rep z len) ps) e H K = some r) : LocalOK P o e H K r true := by
  simp only [evOp] at hr
  cases hk : (gps e ps).all (fun p => okv p.2.2) with
  | false => rw [hk] at hr; cases hr
  | true =>
    rw [hk, cond_true] at hr
    split at hr
    · rename_i cs hcs
      cases hone : cs.all oneC with
      | false => rw [hone] at hr; cases hr
      | true =>
      rw [hone, cond_true] at hr
      obtain ⟨it, zv, h1, h2, h3⟩ := zer_info hz
      have hz0 : zv.cells.toList ≠ [] := by rw [h3]; intro h; rw [h] at hn; exact hn0 hn
      have hzs : zv.cells.size = n := by rw [hn, ← h3]; simp
      refine new_ok _ cs 0 (fun _ _ _ _ _ _ => hone) hr fun ρ hp w a _ _ hE => ?_
      have hp1 := prelA_of hE hps (fun p hp => by simp [ho, Op.operands]; exact ⟨p.1, by simpa using hp⟩) hk
      have hzero : ((Array.range (len * n)).map ((if len * n = 0 then (#[] : Array Value) else zv.cells)[· % (if len * n = 0 then (#[] : Array Value) else zv.cells).size]!)).toList = rep z len := by
        by_cases c : len * n = 0
        · have : len = 0 := by rcases Nat.mul_eq_zero.1 c with h | h; exact h; exact (hn0 h).elim
          subst this
          simp [rep]
        · rw [if_neg c, made_cells (n := len) hz0 (by rw [hzs]), h3]
      have hrep := rep_free hf len
      have lenne : len ≠ unk := by
        intro h; rw [h] at hl; unfold unk at hl
        have : 1 ≤ n := by omega
        have := Nat.mul_le_mul_left 1180591620717411303424 this
        omega
      obtain ⟨cs', h4, h5⟩ := fill_rel hp1 (z := rep z len) (z' := (Array.range (len * n)).map ((if len * n = 0 then (#[] : Array Value) else zv.cells)[· % (if len * n = 0 then (#[] : Array Value) else zv.cells).size]!)) (by rw [hzero]; exact self_rel hrep) hcs
      refine ⟨cs', el, .slice (some ⟨w.heap.size, 0, none⟩) len len, { w with heap := w.heap.push (.cells cs' el) }, 0, fun j y hj => ?_, by simp, fun ρ' h => .of (.slc ⟨_, h⟩ (.inl rfl) (Nat.le_refl _) (fun h => (lenne h).elim)), ?_, rfl, rfl, rfl, rfl⟩
      · obtain ⟨y', g1, g2⟩ := h5.get hj
        exact ⟨y', by simpa using g1, g2⟩
      · have e5 : (parts.map fun (i, x) => (i, a.eval x)).toList = parts.toList.map fun (i, x) => (i, a.eval x) := by simp
        by_cases c : len * n = 0
        · simp only [c, if_true] at h4
          simp [execOp, ho, Instr.buildSlice, run_underlying hu, sz_info hs, c, newRow, newObj, Sem.run]
          (try simp at h4)
          simp [h4, Sem.run]
        · simp only [c, if_false] at h4
          have hbig : ¬ (2 ^ 24 < len * n) := by omega
          simp [execOp, ho, Instr.buildSlice, run_underlying hu, sz_info hs, hbig, c, zeroValue, typeInfo, h1, h2, newRow, newObj, Sem.run]
          (try simp at h4)
          simp [h4, Sem.run]
    · cases hr
end pure
end Go.Proofs.Ytjajknghcbpblaa.FW
