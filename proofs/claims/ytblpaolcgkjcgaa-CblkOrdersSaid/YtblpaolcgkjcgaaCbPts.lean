/- Cblk: the points of a scan, each once; the segments, in plain terms. -/
import Derived.Test.YtblpaolcgkjcgaaCbScans
set_option linter.unusedVariables false
set_option linter.unusedSimpArgs false
namespace Go.Proofs.Ytblpaolcgkjcgaa.Sh
open Go.Proofs.Ytblpaolcgkjcgaa.FW
def cells2 (p : Nat × Nat) : List Value := [.int .i64 (p.1 : Int), .int .i64 (p.2 : Int)]
def qcol (x y m : Nat) : List (Nat × Nat) := (List.range' y m).map fun y => (x, y)
def qstripe (x m top mm : Nat) : List (Nat × Nat) := (List.range' x m).flatMap fun x => qcol x top mm
def qall : Nat → Nat → Nat → Nat → List (Nat × Nat)
  | 0, _, _, _ => []
  | n + 1, w, h, top => if top < h then qstripe 0 w top (min (top + 4) h - top) ++ qall n w h (top + 4) else []
theorem qcol_cells (x y m : Nat) : pcol x y m = (qcol x y m).flatMap cells2 := by
  unfold pcol qcol; rw [List.flatMap_map]; rfl
theorem qall_cells : ∀ (n w h top : Nat), pall n w h top = (qall n w h top).flatMap cells2 := by
  intro n
  induction n with
  | zero => intros; rfl
  | succ n ih =>
    intro w h top
    simp only [pall, qall]
    split
    · rw [List.flatMap_append, ← ih]
      unfold pstripe qstripe
      rw [List.flatMap_assoc]
      simp only [qcol_cells]
    · rfl
theorem qcol_mem {x y m : Nat} {p : Nat × Nat} (h : p ∈ qcol x y m) : p.1 = x ∧ y ≤ p.2 ∧ p.2 < y + m := by
  unfold qcol at h
  obtain ⟨a, ha, rfl⟩ := List.mem_map.1 h
  have := List.mem_range'_1.1 ha
  exact ⟨rfl, this.1, this.2⟩
theorem qstripe_mem {x m top mm : Nat} {p : Nat × Nat} (h : p ∈ qstripe x m top mm) : x ≤ p.1 ∧ p.1 < x + m ∧ top ≤ p.2 ∧ p.2 < top + mm := by
  unfold qstripe at h
  obtain ⟨a, ha, hp⟩ := List.mem_flatMap.1 h
  have := List.mem_range'_1.1 ha
  have := qcol_mem hp
  omega
theorem qall_mem : ∀ {n w h top : Nat} {p : Nat × Nat}, p ∈ qall n w h top → p.1 < w ∧ top ≤ p.2 ∧ p.2 < h := by
  intro n
  induction n with
  | zero => intro w h top p hp; cases hp
  | succ n ih =>
    intro w h top p hp
    simp only [qall] at hp
    split at hp
    · rcases List.mem_append.1 hp with hp | hp
      · have := qstripe_mem hp; omega
      · have := ih hp; omega
    · cases hp
theorem qall_once : ∀ (n w h top : Nat), (qall n w h top).Pairwise (· ≠ ·) := by
  intro n
  induction n with
  | zero => intros; exact .nil
  | succ n ih =>
    intro w h top
    simp only [qall]
    split
    · rw [List.pairwise_append]
      refine ⟨?_, ih _ _ _, fun a ha b hb hab => ?_⟩
      · unfold qstripe
        rw [List.pairwise_flatMap]
        refine ⟨fun x _ => ?_, ?_⟩
        · unfold qcol
          rw [List.pairwise_map]
          exact List.Pairwise.imp (fun h e => by cases e; omega) (List.pairwise_lt_range' (s := top) (n := min (top + 4) h - top) (step := 1) (by omega))
        · refine (List.pairwise_lt_range' (step := 1) (by omega)).imp fun {x1 x2} h a ha b hb hab => ?_
          have h1 := qcol_mem ha
          have h2 := qcol_mem hb
          rw [hab] at h1; omega
      · have h1 := qstripe_mem ha
        have h2 := qall_mem hb
        rw [hab] at h1; omega
    · exact .nil
theorem flatMap_len {α β : Type} (f : α → List β) (c : Nat) : ∀ (l : List α), (∀ a ∈ l, (f a).length = c) → (l.flatMap f).length = l.length * c := by
  intro l
  induction l with
  | nil => intro _; simp
  | cons x l ih =>
    intro h
    rw [List.flatMap_cons, List.length_append, ih fun a ha => h a (List.mem_cons_of_mem _ ha), h x List.mem_cons_self, List.length_cons, Nat.add_mul]; omega
theorem qall_len : ∀ (n w h top : Nat), h ≤ top + 4 * n → (qall n w h top).length = (h - top) * w := by
  intro n
  induction n with
  | zero => intro w h top hh; rw [show h - top = 0 from by omega]; simp [qall]
  | succ n ih =>
    intro w h top hh
    simp only [qall]
    split
    · rw [List.length_append, ih w h (top + 4) (by omega)]
      unfold qstripe
      rw [flatMap_len _ (min (top + 4) h - top) _ (fun a _ => by simp [qcol]), List.length_range', Nat.mul_comm, ← Nat.add_mul]
      congr 1; omega
    · rw [show h - top = 0 from by omega]; simp
theorem cells2_get : ∀ (l : List (Nat × Nat)) (i j : Nat) (p : Nat × Nat), l[i]? = some p → j < 2 → (l.flatMap cells2)[i * 2 + j]? = (cells2 p)[j]? := by
  intro l
  induction l with
  | nil => intro i j p h; simp at h
  | cons x l ih =>
    intro i j p h hj
    rw [List.flatMap_cons, List.getElem?_append]
    cases i with
    | zero => simp at h; subst h; rw [if_pos (by simp [cells2]; omega)]; simp
    | succ i =>
      simp at h
      rw [if_neg (by simp [cells2]; omega)]
      rw [← ih i j p h hj]
      congr 1
      simp [cells2]; omega
theorem cells2_len (l : List (Nat × Nat)) : (l.flatMap cells2).length = l.length * 2 := flatMap_len cells2 2 l fun _ _ => rfl
theorem idx_inj {w : Nat} {p q : Nat × Nat} (h1 : p.1 < w) (h2 : q.1 < w) (e : p.2 * w + p.1 = q.2 * w + q.1) : p = q := by
  have hm : ∀ {x y : Nat}, x < w → (y * w + x) % w = x ∧ (y * w + x) / w = y := fun {x y} hx => ⟨by rw [Nat.add_comm, Nat.add_mul_mod_self_right, Nat.mod_eq_of_lt hx], by rw [Nat.add_comm, Nat.add_mul_div_right _ _ (by omega), Nat.div_eq_of_lt hx]; omega⟩
  have a := hm (y := p.2) h1
  have b := hm (y := q.2) h2
  rw [e] at a
  exact Prod.ext (a.1.symm.trans b.1) (a.2.symm.trans b.2)
/-- A point has not been met before. -/
theorem not_before {w : Nat} {l : List (Nat × Nat)} (ho : l.Pairwise (· ≠ ·)) (hw : ∀ p ∈ l, p.1 < w) {i : Nat} {p : Nat × Nat} (hp : l[i]? = some p) : (l.take i).any (fun r => r.2 * w + r.1 == p.2 * w + p.1) = false := by
  rw [List.any_eq_false]
  intro r hr he
  rw [beq_iff_eq] at he
  have hi := (List.getElem?_eq_some_iff.1 hp).1
  obtain ⟨j, hj, hjr⟩ := List.mem_take_iff_getElem.1 hr
  have := idx_inj (hw r (List.mem_of_mem_take hr)) (hw p (List.mem_of_getElem? hp)) he
  have hlt : j < i := by omega
  have := List.pairwise_iff_getElem.1 ho j i (by omega) hi hlt
  rw [hjr] at this
  have e2 := (List.getElem?_eq_some_iff.1 hp).2
  rw [e2] at this
  exact this ‹r = p›
/-- What the law asks of segments. -/
def rng (at_ t : Int) (t1 : Bool) : Nat → Bool
  | 0 => true
  | m + 1 => (rw' at_ t1 == rw' t t1) && rng at_ (t + 1) t1 m
def walk (n : Int) (t1 : Bool) : Int → List Int → Bool
  | at_, [] => at_ == n
  | at_, s :: l => decide (1 ≤ s) && (decide (at_ + s ≤ n) && (rng at_ at_ t1 s.toNat && walk n t1 (at_ + s) l))
def pre : List Int → List Int → Bool
  | [], _ => true
  | [_], _ => true
  | x :: y :: l, z :: m => (x == z) && pre (y :: l) m
  | _, [] => false
def chk (t1 t2 : Bool) (n : Int) : Bool := walk n t1 0 (segs t1 t2 10000 n) && pre (segs t1 t2 10000 n) (segs t1 t2 10000 (imn (n + 1) 178))
theorem seg_one (t1 : Bool) : ∀ (f : Nat) (left : Int), left < f → seg t1 true f 1 left = List.replicate left.toNat 1 := by
  intro f
  induction f with
  | zero => intro left h; rw [show left.toNat = 0 from by omega]; rfl
  | succ f ih =>
    intro left h
    simp only [seg]
    split
    · have h1 : imn 1 left = 1 := by unfold imn; split <;> omega
      have h2 : nx t1 true 1 = 1 := by cases t1 <;> rfl
      rw [h1, h2, ih (left - 1) (by omega), show left.toNat = (left - 1).toNat + 1 from by omega, List.replicate_succ]
    · rw [show left.toNat = 0 from by omega]; rfl
theorem walk_one (n : Int) (t1 : Bool) : ∀ (m : Nat) (at_ : Int), at_ + m = n → walk n t1 at_ (List.replicate m 1) = true := by
  intro m
  induction m with
  | zero => intro at_ h; simp only [List.replicate_zero, walk, beq_iff_eq]; omega
  | succ m ih =>
    intro at_ h
    have d : decide (at_ + 1 ≤ n) = true := by simp; omega
    have r : rng at_ at_ t1 (1 : Int).toNat = true := by show ((rw' at_ t1 == rw' at_ t1) && true) = true; simp
    rw [List.replicate_succ]
    simp only [walk, d, r, ih (at_ + 1) (by omega)]
    rfl
theorem pre_one : ∀ (m k : Nat), m ≤ k → pre (List.replicate m 1) (List.replicate k 1) = true := by
  intro m
  induction m with
  | zero => intro k _; rfl
  | succ m ih =>
    intro k hk
    cases m with
    | zero => rfl
    | succ m =>
      obtain ⟨k, rfl⟩ : ∃ j, k = j + 1 := ⟨k - 1, by omega⟩
      have := ih k (by omega)
      rw [List.replicate_succ] at this
      simp only [List.replicate_succ] at this ⊢
      simp only [pre, beq_self_eq_true, Bool.true_and]
      exact this
theorem chk_all : ((List.range 178).all fun i => chk true false (i + 1) && chk false false (i + 1)) = true := by kernel_rfl
theorem chk_of (t1 t2 : Bool) {n : Int} (h0 : 1 ≤ n) (h1 : n ≤ 178) : chk t1 t2 n = true := by
  cases t2 with
  | true =>
    have e : ∀ m : Int, 1 ≤ m → m ≤ 178 → segs t1 true 10000 m = List.replicate m.toNat 1 := fun m h2 h3 => by
      unfold segs
      rw [if_neg (by omega), show sz t1 true m 0 = 1 from rfl]
      exact seg_one t1 10000 m (by omega)
    have h2 : 1 ≤ imn (n + 1) 178 ∧ imn (n + 1) 178 ≤ 178 ∧ n ≤ imn (n + 1) 178 := by unfold imn; split <;> omega
    unfold chk
    rw [e n h0 h1, e _ h2.1 h2.2.1, walk_one n t1 n.toNat 0 (by omega), pre_one _ _ (by omega)]; rfl
  | false =>
    have := List.all_eq_true.1 chk_all (n.toNat - 1) (List.mem_range.2 (by omega))
    rw [show (((n.toNat - 1 : Nat) : Int) + 1) = n from by omega] at this
    simp only [Bool.and_eq_true] at this
    cases t1 <;> simp [this]
end Go.Proofs.Ytblpaolcgkjcgaa.Sh
