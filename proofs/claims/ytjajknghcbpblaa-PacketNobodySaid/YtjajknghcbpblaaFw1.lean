/- How a value and a heap of the own machine stand to those of the model. -/
import Derived.Test.YtjajknghcbpblaaFw0
import Derived.Below
import Derived.Laws.Sem
import Derived.Laws.Cells
import Derived.Laws.CopyRow
set_option linter.unusedVariables false
set_option linter.unusedSimpArgs false
namespace Go.Proofs.Ytjajknghcbpblaa.FW
/-- Where an abstract block lies: the world's block, what is added to an offset, and the most that a slice of an unknown capacity can hold. -/
abbrev Ren := Nat → Option (Nat × Nat × Nat)
def At (ρ : Ren) (b b' d : Nat) : Prop := ∃ m, ρ b = some (b', d, m)
def cp (ρ : Ren) (b : Nat) : Nat := match ρ b with
  | some (_, _, m) => m
  | none => 0
theorem At.ne {ρ : Ren} {b b' d : Nat} (h : At ρ b b' d) : ρ b ≠ none := by obtain ⟨m, h⟩ := h; rw [h]; simp
theorem At.uniq {ρ : Ren} {b b' d x y : Nat} (h : At ρ b b' d) (k : At ρ b x y) : b' = x ∧ d = y := by
  obtain ⟨m, h⟩ := h; obtain ⟨m', k⟩ := k; rw [h] at k; cases k; exact ⟨rfl, rfl⟩
inductive VRel (ρ : Ren) : Value → Value → Prop
  | bool (b : Bool) : VRel ρ (.bool b) (.bool b)
  | int (k : IntKind) (n : Int) : VRel ρ (.int k n) (.int k n)
  | flt (k : FloatKind) (b : Nat) : VRel ρ (.float k b) (.float k b)
  | str (s : ByteArray) : VRel ρ (.string s) (.string s)
  | nilp : VRel ρ (.pointer none) (.pointer none)
  | ptr {b o b' d : Nat} : At ρ b b' d → VRel ρ (.pointer (some ⟨b, o, none⟩)) (.pointer (some ⟨b', d + o, none⟩))
  | nils (l c : Nat) : VRel ρ (.slice none l c) (.slice none l c)
  | slc {b o b' d l c c' : Nat} : At ρ b b' d → (c = c' ∨ c = unk) → l ≤ c' → (c = unk → o = 0 → c' ≤ cp ρ b) → VRel ρ (.slice (some ⟨b, o, none⟩) l c) (.slice (some ⟨b', d + o, none⟩) l c')
  | slz (a a' : Addr) : VRel ρ (.slice (some a) 0 0) (.slice (some a') 0 0)
  | sle {p : Addr} {c : Nat} (hp : p = ⟨0, 1, some 0⟩) (hc : c = unk) (a' : Addr) (c' : Nat) : VRel ρ (.slice (some p) 0 c) (.slice (some a') 0 c')
  | nilf : VRel ρ .nilFunc .nilFunc
  | nili : VRel ρ .nilIface .nilIface
  | func (f : Fn) {xs xs' ys ys' : List Value} : xs.length = xs'.length → (∀ (i : Nat) x y, xs[i]? = some x → xs'[i]? = some y → VRel ρ x y) →
      ys.length = ys'.length → (∀ (i : Nat) x y, ys[i]? = some x → ys'[i]? = some y → VRel ρ x y) → VRel ρ (.func f ⟨xs⟩ ⟨ys⟩) (.func f ⟨xs'⟩ ⟨ys'⟩)
  | agg {xs xs' : List Value} : xs.length = xs'.length → (∀ (i : Nat) x y, xs[i]? = some x → xs'[i]? = some y → VRel ρ x y) → VRel ρ (.agg ⟨xs⟩) (.agg ⟨xs'⟩)
  | tup {xs xs' : List Value} : xs.length = xs'.length → (∀ (i : Nat) x y, xs[i]? = some x → xs'[i]? = some y → VRel ρ x y) → VRel ρ (.tuple ⟨xs⟩) (.tuple ⟨xs'⟩)
def LRel (ρ : Ren) (xs ys : List Value) : Prop := xs.length = ys.length ∧ ∀ (i : Nat) x y, xs[i]? = some x → ys[i]? = some y → VRel ρ x y
def Le (ρ ρ' : Ren) : Prop := ∀ b x, ρ b = some x → ρ' b = some x
theorem Le.refl (ρ : Ren) : Le ρ ρ := fun _ _ h => h
theorem Le.trans {ρ1 ρ2 ρ3 : Ren} (h : Le ρ1 ρ2) (k : Le ρ2 ρ3) : Le ρ1 ρ3 := fun b x e => k b x (h b x e)
theorem At.mono {ρ ρ' : Ren} (h : Le ρ ρ') {b b' d : Nat} (k : At ρ b b' d) : At ρ' b b' d := by obtain ⟨m, k⟩ := k; exact ⟨m, h _ _ k⟩
theorem cp_mono {ρ ρ' : Ren} (h : Le ρ ρ') {b b' d : Nat} (k : At ρ b b' d) : cp ρ' b = cp ρ b := by obtain ⟨m, k⟩ := k; simp [cp, k, h _ _ k]
theorem VRel.mono {ρ ρ' : Ren} (h : Le ρ ρ') {v v' : Value} (r : VRel ρ v v') : VRel ρ' v v' := by
  induction r with
  | bool b => exact .bool b
  | int k n => exact .int k n
  | flt k b => exact .flt k b
  | str s => exact .str s
  | nilp => exact .nilp
  | ptr e => exact .ptr (e.mono h)
  | nils l c => exact .nils l c
  | slc e c1 c2 c3 => exact .slc (e.mono h) c1 c2 (fun a b => by rw [cp_mono h e]; exact c3 a b)
  | slz a a' => exact .slz a a'
  | sle hp hc a' c' => exact .sle hp hc a' c'
  | nilf => exact .nilf
  | nili => exact .nili
  | func f l1 _ l2 _ ih1 ih2 => exact .func f l1 ih1 l2 ih2
  | agg l1 _ ih => exact .agg l1 ih
  | tup l1 _ ih => exact .tup l1 ih
/-- What is related by a part of a renaming, and by the whole to another, is related by the part to that. -/
theorem VRel.back {ρ ρ' : Ren} (h : Le ρ ρ') {v x : Value} (r : VRel ρ v x) : ∀ y, VRel ρ' v y → VRel ρ v y := by
  induction r with
  | bool b => intro y k; cases k; exact .bool b
  | int k n => intro y k; cases k; exact .int _ n
  | flt k b => intro y k; cases k; exact .flt _ b
  | str s => intro y k; cases k; exact .str s
  | nilp => intro y k; cases k; exact .nilp
  | ptr e => intro y k; cases k with | ptr e2 => obtain ⟨rfl, rfl⟩ := (e.mono h).uniq e2; exact .ptr e
  | nils l c => intro y k; cases k; exact .nils l c
  | slc e c1 c2 c3 =>
    intro y k
    cases k with
    | slc e2 d1 d2 d3 => obtain ⟨rfl, rfl⟩ := (e.mono h).uniq e2; exact .slc e d1 d2 (fun a b => by rw [← cp_mono h e]; exact d3 a b)
    | slz a a' => exact .slz _ _
    | sle hp hc _ _ => exact .sle hp hc _ _
  | slz a a' =>
    intro y k
    cases k with
    | slc e2 d1 d2 d3 =>
      rcases d1 with rfl | d1
      · exact .slz _ _
      · exact (by simp [unk] at d1 : False).elim
    | slz _ _ => exact .slz _ _
    | sle hp hc _ _ => exact .sle hp hc _ _
  | sle hp hc a' c' =>
    intro y k
    cases k with
    | slc e2 d1 d2 d3 => exact .sle hp hc _ _
    | slz _ _ => exact .slz _ _
    | sle _ _ _ _ => exact .sle hp hc _ _
  | nilf => intro y k; cases k; exact .nilf
  | nili => intro y k; cases k; exact .nili
  | @func f xs xs' ys ys' l1 h1 l2 h2 ih1 ih2 =>
    intro y k
    cases k with
    | @func _ _ zs _ us m1 k1 m2 k2 =>
      refine .func f m1 (fun i x z a b => ?_) m2 (fun i x z a b => ?_)
      · have hi : i < xs'.length := by rw [← l1]; exact (List.getElem?_eq_some_iff.1 a).1
        exact ih1 i x xs'[i] a (List.getElem?_eq_getElem hi) z (k1 i x z a b)
      · have hi : i < ys'.length := by rw [← l2]; exact (List.getElem?_eq_some_iff.1 a).1
        exact ih2 i x ys'[i] a (List.getElem?_eq_getElem hi) z (k2 i x z a b)
  | @agg xs xs' l1 h1 ih =>
    intro y k
    cases k with
    | @agg _ zs m1 k1 =>
      refine .agg m1 (fun i x z a b => ?_)
      have hi : i < xs'.length := by rw [← l1]; exact (List.getElem?_eq_some_iff.1 a).1
      exact ih i x xs'[i] a (List.getElem?_eq_getElem hi) z (k1 i x z a b)
  | @tup xs xs' l1 h1 ih =>
    intro y k
    cases k with
    | @tup _ zs m1 k1 =>
      refine .tup m1 (fun i x z a b => ?_)
      have hi : i < xs'.length := by rw [← l1]; exact (List.getElem?_eq_some_iff.1 a).1
      exact ih i x xs'[i] a (List.getElem?_eq_getElem hi) z (k1 i x z a b)
theorem VRel.freeC {ρ : Ren} {v v' : Value} (h : ptrFreeC v = true) (r : VRel ρ v v') (ρ' : Ren) : VRel ρ' v v' := by
  cases r <;> first | exact .bool _ | exact .int _ _ | exact .flt _ _ | exact .str _ | exact .nilp | exact .nils _ _ | exact .nilf | exact .nili | (simp [ptrFreeC] at h)
theorem VRel.freeD {ρ : Ren} {xs xs' : List Value} (h : xs.all ptrFreeC = true) (l : xs.length = xs'.length) (r : ∀ (i : Nat) x y, xs[i]? = some x → xs'[i]? = some y → VRel ρ x y) (ρ' : Ren) : VRel ρ' (.agg ⟨xs⟩) (.agg ⟨xs'⟩) :=
  .agg l fun i x y a b => (r i x y a b).freeC (List.all_eq_true.1 h x (List.mem_of_getElem? a)) ρ'
theorem VRel.free {ρ : Ren} {v v' : Value} (h : ptrFree v = true) (r : VRel ρ v v') (ρ' : Ren) : VRel ρ' v v' := by
  cases r with
  | agg l k => exact .freeD h l k ρ'
  | tup l k =>
    refine .tup l fun i x y a b => ?_
    have hx := List.all_eq_true.1 h x (List.mem_of_getElem? a)
    have q := k i x y a b
    cases q with
    | agg l k => exact .freeD hx l k ρ'
    | bool _ => exact .bool _
    | int _ _ => exact .int _ _
    | flt _ _ => exact .flt _ _
    | str _ => exact .str _
    | nilp => exact .nilp
    | nils _ _ => exact .nils _ _
    | nilf => exact .nilf
    | nili => exact .nili
    | _ => simp [ptrFreeC] at hx
  | func => simp [ptrFree, ptrFreeC] at h
  | ptr => simp [ptrFree, ptrFreeC] at h
  | slc => simp [ptrFree, ptrFreeC] at h
  | slz => simp [ptrFree, ptrFreeC] at h
  | sle => simp [ptrFree, ptrFreeC] at h
  | bool b => exact .bool b
  | int k n => exact .int k n
  | flt k b => exact .flt k b
  | str s => exact .str s
  | nilp => exact .nilp
  | nils l c => exact .nils l c
  | nilf => exact .nilf
  | nili => exact .nili
/-- The relation of what a frame holds: nothing is known of 'undef', and 'skp' is a skipped operation's. -/
def V0 (ρ : Ren) (v v' : Value) : Prop := v = undef ∨ (v = skp ∧ v' = undef) ∨ VRel ρ v v'
theorem V0.of {ρ : Ren} {v v' : Value} (h : VRel ρ v v') : V0 ρ v v' := .inr (.inr h)
theorem V0.mono {ρ ρ' : Ren} (h : Le ρ ρ') {v v' : Value} (r : V0 ρ v v') : V0 ρ' v v' := by
  rcases r with r | r | r
  · exact .inl r
  · exact .inr (.inl r)
  · exact .inr (.inr (r.mono h))
theorem V0.rel {ρ : Ren} {v v' : Value} (r : V0 ρ v v') (h : okv v = true) : VRel ρ v v' := by
  rcases r with r | r | r
  · subst r; simp [okv, undef] at h
  · rw [r.1] at h; simp [okv, skp] at h
  · exact r
theorem V0.int {ρ : Ren} {k : IntKind} {n : Int} {v' : Value} (r : V0 ρ (.int k n) v') : v' = .int k n := by
  cases r.rel rfl; rfl
theorem V0.bool {ρ : Ren} {n : Bool} {v' : Value} (r : V0 ρ (.bool n) v') : v' = .bool n := by
  cases r.rel rfl; rfl
theorem V0.str {ρ : Ren} {n : ByteArray} {v' : Value} (r : V0 ρ (.string n) v') : v' = .string n := by
  cases r.rel rfl; rfl
theorem V0.ptr {ρ : Ren} {b o : Nat} {s : Option Nat} {v' : Value} (r : V0 ρ (.pointer (some ⟨b, o, s⟩)) v') : s = none ∧ ∃ b' d, At ρ b b' d ∧ v' = .pointer (some ⟨b', d + o, none⟩) := by
  cases r.rel rfl with | ptr e => exact ⟨rfl, _, _, e, rfl⟩
theorem V0.nil {ρ : Ren} {v' : Value} (r : V0 ρ (.pointer none) v') : v' = .pointer none := by
  cases r.rel rfl; rfl
theorem V0.slc {ρ : Ren} {b o l c : Nat} {s : Option Nat} {v' : Value} (r : V0 ρ (.slice (some ⟨b, o, s⟩) l c) v') (hz : ¬ (l = 0 ∧ (c = 0 ∨ (c = unk ∧ o = 1 ∧ s = some 0)))) : s = none ∧ ∃ b' d c', At ρ b b' d ∧ v' = .slice (some ⟨b', d + o, none⟩) l c' ∧ (c = c' ∨ c = unk) ∧ l ≤ c' ∧ (c = unk → o = 0 → c' ≤ cp ρ b) := by
  cases r.rel rfl with
  | slc e h1 h2 h3 => exact ⟨rfl, _, _, _, e, rfl, h1, h2, h3⟩
  | slz a a' => exact (hz ⟨rfl, .inl rfl⟩).elim
  | sle hp hc a' c' => cases hp; exact (hz ⟨rfl, .inr ⟨hc, rfl, rfl⟩⟩).elim
theorem V0.slx {ρ : Ren} {a : Addr} {l c : Nat} {v' : Value} (r : V0 ρ (.slice (some a) l c) v') : ∃ a' c', v' = .slice (some a') l c' ∧ (c = c' ∨ c = unk) ∧ l ≤ c' := by
  cases r.rel rfl with
  | slc e h1 h2 h3 => exact ⟨_, _, rfl, h1, h2⟩
  | slz a a' => exact ⟨_, _, rfl, .inl rfl, Nat.le_refl _⟩
  | sle hp hc a' c' => exact ⟨_, _, rfl, .inr hc, Nat.zero_le _⟩
theorem V0.nils {ρ : Ren} {l c : Nat} {v' : Value} (r : V0 ρ (.slice none l c) v') : v' = .slice none l c := by
  cases r.rel rfl; rfl
theorem V0.agg {ρ : Ren} {cs : Array Value} {v' : Value} (r : V0 ρ (.agg cs) v') : ∃ ds : Array Value, v' = .agg ds ∧ LRel ρ cs.toList ds.toList := by
  cases r.rel rfl with | agg l h => exact ⟨_, rfl, l, h⟩
theorem V0.nilf {ρ : Ren} {v' : Value} (r : V0 ρ .nilFunc v') : v' = .nilFunc := by
  cases r.rel rfl; rfl
theorem V0.func {ρ : Ren} {f : Fn} {xs ys : Array Value} {v' : Value} (r : V0 ρ (.func f xs ys) v') : ∃ xs' ys' : Array Value, v' = .func f xs' ys' ∧ LRel ρ xs.toList xs'.toList ∧ LRel ρ ys.toList ys'.toList := by
  cases r.rel rfl with | func _ l1 h1 l2 h2 => exact ⟨_, _, rfl, ⟨l1, h1⟩, l2, h2⟩
theorem V0.tup {ρ : Ren} {xs : List Value} {v' : Value} (r : V0 ρ (.tuple ⟨xs⟩) v') (h : ∀ (i : Nat) x, xs[i]? = some x → x = undef → False) (h0 : xs ≠ []) : ∃ ys : List Value, v' = .tuple ⟨ys⟩ ∧ LRel ρ xs ys := by
  rcases r with r | r | r
  · simp [undef] at r; exact (h0 r).elim
  · have := r.1; simp [skp] at this; subst this; exact (h 0 _ rfl rfl).elim
  · cases r with | tup l k => exact ⟨_, rfl, l, k⟩
theorem ptrFree_of {v : Value} (h : ptrFreeC v = true) : ptrFree v = true := by
  cases v <;> first | exact h | (simp [ptrFreeC] at h)
theorem oneC_of {v : Value} (h : ptrFreeC v = true) : oneC v = true := by
  cases v <;> first | rfl | (simp [ptrFreeC] at h)
theorem oneCs_of {z : List Value} (h : z.all ptrFreeC = true) : z.all oneC = true := List.all_eq_true.2 fun v hv => oneC_of (List.all_eq_true.1 h v hv)
theorem okv_of {v : Value} (h : ptrFreeC v = true) : okv v = true := by
  cases v <;> first | rfl | (simp [ptrFreeC] at h)
theorem LRel.nil {ρ : Ren} : LRel ρ [] [] := ⟨rfl, fun i x y a => by simp at a⟩
theorem LRel.cons {ρ : Ren} {x y : Value} {xs ys : List Value} (h : VRel ρ x y) (k : LRel ρ xs ys) : LRel ρ (x :: xs) (y :: ys) := by
  refine ⟨by simp [k.1], fun i a b ha hb => ?_⟩
  cases i with
  | zero => simp at ha hb; subst ha; subst hb; exact h
  | succ i => simp at ha hb; exact k.2 i a b ha hb
theorem LRel.append {ρ : Ren} {xs ys us vs : List Value} (h : LRel ρ xs ys) (k : LRel ρ us vs) : LRel ρ (xs ++ us) (ys ++ vs) := by
  refine ⟨by simp [h.1, k.1], fun i a b ha hb => ?_⟩
  rw [List.getElem?_append] at ha hb
  rw [← h.1] at hb
  split at ha
  · rename_i hi; rw [if_pos hi] at hb; exact h.2 i a b ha hb
  · rename_i hi; rw [if_neg hi] at hb; exact k.2 _ a b ha hb
theorem LRel.take {ρ : Ren} {xs ys : List Value} (h : LRel ρ xs ys) (n : Nat) : LRel ρ (xs.take n) (ys.take n) := by
  refine ⟨by simp [h.1], fun i a b ha hb => ?_⟩
  rw [List.getElem?_take] at ha hb
  split at ha
  · rename_i hi; rw [if_pos hi] at hb; exact h.2 i a b ha hb
  · cases ha
theorem LRel.drop {ρ : Ren} {xs ys : List Value} (h : LRel ρ xs ys) (n : Nat) : LRel ρ (xs.drop n) (ys.drop n) := by
  refine ⟨by simp [h.1], fun i a b ha hb => ?_⟩
  rw [List.getElem?_drop] at ha hb
  exact h.2 _ a b ha hb
theorem LRel.mono {ρ ρ' : Ren} (h : Le ρ ρ') {xs ys : List Value} (r : LRel ρ xs ys) : LRel ρ' xs ys := ⟨r.1, fun i a b ha hb => (r.2 i a b ha hb).mono h⟩
theorem LRel.get {ρ : Ren} {xs ys : List Value} (r : LRel ρ xs ys) {i : Nat} {x : Value} (h : xs[i]? = some x) : ∃ y, ys[i]? = some y ∧ VRel ρ x y := by
  have hi : i < ys.length := by rw [← r.1]; exact (List.getElem?_eq_some_iff.1 h).1
  exact ⟨_, List.getElem?_eq_getElem hi, r.2 i x _ h (List.getElem?_eq_getElem hi)⟩
/-- How a heap (abstract names to blocks) lies in a world. -/
structure Rel (ρ : Ren) (hp : Nat → Option Blk) (w : World) : Prop where
  blk : ∀ b B, hp b = some B → ∃ b' d m arr el fr, ρ b = some (b', d, m) ∧ w.heap[b']? = some (.cells arr el fr) ∧
    (∀ (i : Nat) v, B.cells[i]? = some v → ∃ v', arr[d + i]? = some v' ∧ VRel ρ v v') ∧ (B.ro = false → d = 0 ∧ fr = (0, 0) ∧ m * B.sz ≤ arr.size) ∧ B.cells.all oneC = true
  inj : ∀ b1 B1 b2 B2 x1 d1 x2 d2, hp b1 = some B1 → hp b2 = some B2 → b1 ≠ b2 → B1.ro = false → At ρ b1 x1 d1 → At ρ b2 x2 d2 → x1 ≠ x2
structure Kept (ρ : Ren) (hp : Nat → Option Blk) (w w' : World) : Prop where
  os : w'.os = w.os
  tape : w'.tape = w.tape
  output : w'.output = w.output
  size : w.heap.size ≤ w'.heap.size
  block : ∀ c, c < w.heap.size → (∀ b B d, hp b = some B → B.ro = false → ¬ At ρ b c d) → w'.heap[c]? = w.heap[c]?
structure Goes (ρ : Ren) (hp : Nat → Option Blk) (w : World) (ρ' : Ren) (hp' : Nat → Option Blk) (w' : World) : Prop where
  le : Le ρ ρ'
  rel : Rel ρ' hp' w'
  kept : Kept ρ hp w w'
  ancs : ∀ b B x d, hp' b = some B → At ρ' b x d → w.heap.size ≤ x ∨ (∃ B0, hp b = some B0 ∧ At ρ b x d ∧ (B.ro = false → B0.ro = false)) ∨ ∃ b0 B0 d0, hp b0 = some B0 ∧ B0.ro = false ∧ At ρ b0 x d0
theorem Goes.anc {ρ ρ' : Ren} {hp hp' : Nat → Option Blk} {w w' : World} (g : Goes ρ hp w ρ' hp' w') : ∀ b B x d, hp' b = some B → B.ro = false → At ρ' b x d → w.heap.size ≤ x ∨ ∃ b0 B0 d0, hp b0 = some B0 ∧ B0.ro = false ∧ At ρ b0 x d0 := by
  intro b B x d hb hro hx
  rcases g.ancs b B x d hb hx with h | ⟨B0, h1, h2, h3⟩ | h
  · exact .inl h
  · exact .inr ⟨b, B0, d, h1, h3 hro, h2⟩
  · exact .inr h
theorem Rel.anyHeap {ρ : Ren} {hp : Nat → Option Blk} {w w' : World} (h : Rel ρ hp w) (e : w'.heap = w.heap) : Rel ρ hp w' :=
  ⟨fun b B hb => by rw [e]; exact h.blk b B hb, h.inj⟩
theorem Goes.refl {ρ : Ren} {hp : Nat → Option Blk} {w : World} (h : Rel ρ hp w) : Goes ρ hp w ρ hp w :=
  ⟨Le.refl _, h, ⟨rfl, rfl, rfl, Nat.le_refl _, fun _ _ _ => rfl⟩, fun b B x d hb hx => .inr (.inl ⟨B, hb, hx, id⟩)⟩
theorem Goes.trans {ρ1 ρ2 ρ3 : Ren} {h1 h2 h3 : Nat → Option Blk} {w1 w2 w3 : World} (a : Goes ρ1 h1 w1 ρ2 h2 w2) (b : Goes ρ2 h2 w2 ρ3 h3 w3) : Goes ρ1 h1 w1 ρ3 h3 w3 := by
  refine ⟨a.le.trans b.le, b.rel, ⟨b.kept.os.trans a.kept.os, b.kept.tape.trans a.kept.tape, b.kept.output.trans a.kept.output, Nat.le_trans a.kept.size b.kept.size, fun c hc hn => ?_⟩, fun x B y d hb hx => ?_⟩
  · rw [b.kept.block c (Nat.lt_of_lt_of_le hc a.kept.size) ?_, a.kept.block c hc hn]
    intro x B d hb hr he
    rcases a.anc x B c d hb hr he with h | ⟨b0, B0, d0, k1, k2, k3⟩
    · omega
    · exact hn b0 B0 d0 k1 k2 k3
  · rcases b.ancs x B y d hb hx with h | ⟨B0, k1, k2, k3⟩ | ⟨b0, B0, d0, k1, k2, k3⟩
    · exact .inl (Nat.le_trans a.kept.size h)
    · rcases a.ancs x B0 y d k1 k2 with h | ⟨B1, g1, g2, g3⟩ | h
      · exact .inl h
      · exact .inr (.inl ⟨B1, g1, g2, fun h => g3 (k3 h)⟩)
      · exact .inr (.inr h)
    · rcases a.anc b0 B0 y d0 k1 k2 k3 with h | h
      · exact .inl h
      · exact .inr (.inr h)
theorem Goes.drew {ρ ρ' : Ren} {h h' : Nat → Option Blk} {w w' : World} (a : Goes ρ h w ρ' h' w') (n : Nat) : Goes ρ h w ρ' h' { w' with drawn := n } :=
  ⟨a.le, a.rel.anyHeap rfl, ⟨a.kept.os, a.kept.tape, a.kept.output, a.kept.size, a.kept.block⟩, a.ancs⟩
def Dom (ρ : Ren) (n : Nat) : Prop := ∀ b, n ≤ b → ρ b = none
/-- A part of a block, read. -/
theorem Rel.cell {ρ : Ren} {hp : Nat → Option Blk} {w : World} (h : Rel ρ hp w) {b o b' d : Nat} {B : Blk} {v : Value} (hb : hp b = some B) (hv : B.cells[o]? = some v) (hr : At ρ b b' d) :
    ∃ v', w.cell? ⟨b', d + o, none⟩ = some v' ∧ VRel ρ v v' := by
  obtain ⟨b2, d2, m2, arr, el, fr, e, hw, hc, _⟩ := h.blk b B hb
  obtain ⟨m, hr⟩ := hr
  rw [hr] at e; cases e
  obtain ⟨v', h1, h2⟩ := hc o v hv
  exact ⟨v', by simp [World.cell?, hw, h1], h2⟩
end Go.Proofs.Ytjajknghcbpblaa.FW
