/- Color: lists of planes. -/
import Derived.Test.YtoeoolnkndkefaaClH
import Derived.Test.YtoeoolnkndkefaaSh4
import Derived.Test.YtoeoolnkndkefaaSh9
import Derived.Test.YtoeoolnkndkefaaFwY
set_option linter.unusedVariables false
set_option linter.unusedSimpArgs false
namespace Go.Proofs.Ytoeoolnkndkefaa.Sh
open Go.Proofs.Ytoeoolnkndkefaa.FW
structure Pr where
  x0 : Int
  y0 : Int
  x1 : Int
  y1 : Int
  xs : List Int
  q : Option Addr
  c : Nat
def Pr.cells (e : Pr) : List Value := pl5 e.x0 e.y0 e.x1 e.y1 e.q e.xs.length e.c
def Pr.pl (e : Pr) : Int × Int × Int × Int × List Int := (e.x0, e.y0, e.x1, e.y1, e.xs)
def cellsOf (es : List Pr) : List Value := (es.map Pr.cells).flatten
theorem cellsOf_nil : cellsOf [] = [] := rfl
theorem cellsOf_cons (e : Pr) (es : List Pr) : cellsOf (e :: es) = e.cells ++ cellsOf es := rfl
theorem cells_len (e : Pr) : e.cells.length = 5 := rfl
theorem cellsOf_len (es : List Pr) : (cellsOf es).length = es.length * 5 := by
  induction es with
  | nil => rfl
  | cons e es ih => rw [cellsOf_cons, List.length_append, ih, cells_len, List.length_cons]; omega
theorem cellsOf_get {es : List Pr} {i : Nat} {e : Pr} (h : es[i]? = some e) {j : Nat} (hj : j < 5) : (cellsOf es)[i * 5 + j]? = e.cells[j]? := by
  induction es generalizing i with
  | nil => simp at h
  | cons a es ih =>
    rw [cellsOf_cons]
    cases i with
    | zero =>
      simp only [List.getElem?_cons_zero, Option.some.injEq] at h
      subst h
      rw [List.getElem?_append_left (by rw [cells_len]; omega)]
      simp
    | succ i =>
      rw [List.getElem?_append_right (by rw [cells_len]; omega), cells_len, show (i + 1) * 5 + j - 5 = i * 5 + j from by omega]
      exact ih (by simpa using h)
structure Pls (H : Heap) (q : Option Addr) (es : List Pr) : Prop where
  sh : Shows H q (cellsOf es)
  da : ∀ e ∈ es, Shows H e.q (ints e.xs)
theorem Pls.keep {H H' : Heap} {q : Option Addr} {es : List Pr} (h : Pls H q es) (o : Old H.length H H') : Pls H' q es := ⟨h.sh.keep o, fun e he => (h.da e he).keep o⟩
theorem Pls.app {H J : Heap} {q : Option Addr} {es : List Pr} (h : Pls H q es) : Pls (H ++ J) q es := h.keep (Old.app _ _)
theorem shows_take {H : Heap} {q : Option Addr} {a b : List Value} (h : Shows H q (a ++ b)) : Shows H q a := by
  rcases h with h | ⟨b', o, full, rfl, h1, h2, h3⟩
  · exact .inl (by cases a <;> simp_all)
  · refine .inr ⟨b', o, full, rfl, h1, ?_, ?_⟩
    · rw [List.length_append] at h2; omega
    · rw [List.length_append] at h3
      have := congrArg (List.take a.length) h3
      rw [List.take_take, Nat.min_eq_left (by omega), List.take_left'  rfl] at this
      exact this
theorem cellsOf_append (a b : List Pr) : cellsOf (a ++ b) = cellsOf a ++ cellsOf b := by simp [cellsOf]
theorem Pls.take {H : Heap} {q : Option Addr} {a b : List Pr} (h : Pls H q (a ++ b)) : Pls H q a := ⟨by have := h.sh; rw [cellsOf_append] at this; exact shows_take this, fun e he => h.da e (List.mem_append_left _ he)⟩
/-- An element of such a list. -/
theorem Pls.at {H : Heap} {q : Option Addr} {es : List Pr} (h : Pls H q es) {i : Nat} {e : Pr} (hi : es[i]? = some e) :
    ∃ b o, (∀ (R : Type) (K : Option Addr → Option R), hidx q es.length (i : Int) 5 K = K (some ⟨b, o, none⟩)) ∧ hcell H b (o + 0) = some (.int .i64 e.x0) ∧ hcell H b (o + 1) = some (.int .i64 e.y0) ∧ hcell H b (o + 2) = some (.int .i64 e.x1) ∧ hcell H b (o + 3) = some (.int .i64 e.y1) ∧ hcell H b (o + 4) = some (.slice e.q e.xs.length e.c) ∧ Shows H e.q (ints e.xs) := by
  have hlt : i < es.length := by
    rcases Nat.lt_or_ge i es.length with h | h
    · exact h
    · rw [List.getElem?_eq_none h] at hi; cases hi
  have hda := h.da e (List.mem_of_getElem? hi)
  rcases h.sh with hn | ⟨b, o, full, rfl, h1, h2, h3⟩
  · have := cellsOf_len es; rw [hn] at this; simp at this; omega
  · have hc := cellsOf_len es
    have key : ∀ j, j < 5 → hcell H b (o + i * 5 + j) = e.cells[j]? := by
      intro j hj
      have g := cellsOf_get hi hj
      rw [← h3, List.getElem?_take, if_pos (by omega), List.getElem?_drop] at g
      rw [h1.cell, ← g, show o + i * 5 + j = o + (i * 5 + j) from by omega]
    exact ⟨b, o + i * 5, fun R K => by simp only [hidx]; rw [if_pos ⟨by omega, by omega⟩, Int.toNat_natCast], key 0 (by omega), key 1 (by omega), key 2 (by omega), key 3 (by omega), key 4 (by omega), hda⟩
/-- Each plane has at most 400 samples. -/
def fewp (es : List Pr) : Bool := es.all fun e => decide (e.xs.length ≤ 400)
theorem bif_and {α : Type} (a b : Bool) (x y : α) : (bif a && b then x else y) = bif a then (bif b then x else y) else y := by cases a <;> rfl
theorem get_of {es : List Pr} {i m : Nat} (h : es.length = i + (m + 1)) : ∃ e, es[i]? = some e ∧ es.drop i = e :: es.drop (i + 1) := by
  have hlt : i < es.length := by omega
  exact ⟨es[i], List.getElem?_eq_getElem hlt, List.drop_eq_getElem_cons hlt⟩
theorem few_loop (k : Nat) {q : Option Addr} {es : List Pr} (c : Nat) (hl : es.length ≤ 9223372036854775807) : ∀ (m n i : Nat), m < n → es.length = i + m → ∀ (H : Heap), Pls H q es → ∃ J, ∀ (R : Type) (KE : Option Addr → Nat → Nat → Heap → Option R) (KR : Bool → Heap → Option R), L_few_l0 k KE KR n q es.length c (i : Int) H = bif fewp (es.drop i) then KE q es.length c (H ++ J) else KR false (H ++ J) := by
  intro m
  induction m with
  | zero =>
    intro n i hn hi H hP
    obtain ⟨n, rfl⟩ : ∃ n', n = n' + 1 := ⟨n - 1, by omega⟩
    refine ⟨[], fun R KE KR => ?_⟩
    have ed : decide ((i : Int) < ((es.length : Nat) : Int)) = false := decide_eq_false (by omega)
    rw [List.drop_of_length_le (by omega), List.append_nil]
    simp only [L_few_l0, L_few_l0_b, ed, cond_false]
    rfl
  | succ m ih =>
    intro n i hn hi H hP
    obtain ⟨n, rfl⟩ : ∃ n', n = n' + 1 := ⟨n - 1, by omega⟩
    have ed : decide ((i : Int) < ((es.length : Nat) : Int)) = true := decide_eq_true (by omega)
    obtain ⟨e, he, hd⟩ := get_of hi
    obtain ⟨b, o, e0, m0, m1, m2, m3, m4, hS⟩ := hP.at he
    obtain ⟨J1, e1⟩ := few1_eq e.x0 e.y0 e.x1 e.y1 e.q e.xs.length e.c H
    obtain ⟨J2, e2⟩ := ih n (i + 1) (by omega) (by omega) (H ++ J1) hP.app
    have w : IntKind.wrap .i64 ((i : Int) + 1) = ((i + 1 : Nat) : Int) := by rw [w64 (by omega) (by omega)]; omega
    rw [hd, show fewp (e :: es.drop (i + 1)) = (decide (e.xs.length ≤ 400) && fewp (es.drop (i + 1))) from rfl]
    cases hb : decide (e.xs.length ≤ 400) with
    | false =>
      refine ⟨J1, fun R KE KR => ?_⟩
      rw [hb] at e1
      unfold L_few_l0 L_few_l0_b
      repeat (first | (with_reducible refine (e0 _ _).trans ?_) | (with_reducible refine (e1 _ _).trans ?_) | ((with_reducible refine go_ip (x := ?_) ?_ ?_); rotate_left 1; (first  | exact m0 | exact m1 | exact m2 | exact m3 | exact m4 | rfl)) | ((with_reducible refine go_bp (x := ?_) ?_ ?_); rotate_left 1; (first  | exact m0 | exact m1 | exact m2 | exact m3 | exact m4 | rfl)) | ((with_reducible refine go_lp (x := ?_) (l := ?_) (c := ?_) ?_ ?_); rotate_left 3; (first  | exact m0 | exact m1 | exact m2 | exact m3 | exact m4 | rfl)) | ((with_reducible refine go_pp (x := ?_) ?_ ?_); rotate_left 1; (first  | exact m0 | exact m1 | exact m2 | exact m3 | exact m4 | rfl)) | ((with_reducible refine go_i (x := ?_) ?_ ?_); rotate_left 1; (first  | exact m0 | exact m1 | exact m2 | exact m3 | exact m4 | rfl)) | ((with_reducible refine go_b (x := ?_) ?_ ?_); rotate_left 1; (first  | exact m0 | exact m1 | exact m2 | exact m3 | exact m4 | rfl)) | ((with_reducible refine go_l (x := ?_) (l := ?_) (c := ?_) ?_ ?_); rotate_left 3; (first  | exact m0 | exact m1 | exact m2 | exact m3 | exact m4 | rfl)) | ((with_reducible refine go_p (x := ?_) ?_ ?_); rotate_left 1; (first  | exact m0 | exact m1 | exact m2 | exact m3 | exact m4 | rfl)) | (with_reducible refine go_hal ?_) | (with_reducible refine go_t ed ?_) | (with_reducible refine go_f ed ?_) | ((with_reducible refine go_t ?_ ?_); (show _ = true; rfl)) | ((with_reducible refine go_f ?_ ?_); (show _ = false; rfl)) | (with_reducible refine go_ne ?_) | (with_reducible refine go_eq ?_) | (with_reducible refine go_fad ?_) | (with_reducible refine go_nil ?_))
      rfl
    | true =>
      refine ⟨J1 ++ J2, fun R KE KR => ?_⟩
      rw [hb] at e1
      unfold L_few_l0 L_few_l0_b
      repeat (first | (with_reducible refine (e0 _ _).trans ?_) | (with_reducible refine (e1 _ _).trans ?_) | ((with_reducible refine go_ip (x := ?_) ?_ ?_); rotate_left 1; (first  | exact m0 | exact m1 | exact m2 | exact m3 | exact m4 | rfl)) | ((with_reducible refine go_bp (x := ?_) ?_ ?_); rotate_left 1; (first  | exact m0 | exact m1 | exact m2 | exact m3 | exact m4 | rfl)) | ((with_reducible refine go_lp (x := ?_) (l := ?_) (c := ?_) ?_ ?_); rotate_left 3; (first  | exact m0 | exact m1 | exact m2 | exact m3 | exact m4 | rfl)) | ((with_reducible refine go_pp (x := ?_) ?_ ?_); rotate_left 1; (first  | exact m0 | exact m1 | exact m2 | exact m3 | exact m4 | rfl)) | ((with_reducible refine go_i (x := ?_) ?_ ?_); rotate_left 1; (first  | exact m0 | exact m1 | exact m2 | exact m3 | exact m4 | rfl)) | ((with_reducible refine go_b (x := ?_) ?_ ?_); rotate_left 1; (first  | exact m0 | exact m1 | exact m2 | exact m3 | exact m4 | rfl)) | ((with_reducible refine go_l (x := ?_) (l := ?_) (c := ?_) ?_ ?_); rotate_left 3; (first  | exact m0 | exact m1 | exact m2 | exact m3 | exact m4 | rfl)) | ((with_reducible refine go_p (x := ?_) ?_ ?_); rotate_left 1; (first  | exact m0 | exact m1 | exact m2 | exact m3 | exact m4 | rfl)) | (with_reducible refine go_hal ?_) | (with_reducible refine go_t ed ?_) | (with_reducible refine go_f ed ?_) | ((with_reducible refine go_t ?_ ?_); (show _ = true; rfl)) | ((with_reducible refine go_f ?_ ?_); (show _ = false; rfl)) | (with_reducible refine go_ne ?_) | (with_reducible refine go_eq ?_) | (with_reducible refine go_fad ?_) | (with_reducible refine go_nil ?_))
      rw [w, e2, List.append_assoc]
      rfl
theorem few_eq {k : Nat} {H : Heap} {q : Option Addr} {es : List Pr} (c : Nat) (hk : es.length < k) (hl : es.length ≤ 9223372036854775807) (hP : Pls H q es) : ∃ J, ∀ (R : Type) (K : Bool → Heap → Option R), L_few k q es.length c H K = K (fewp es && decide (es.length ≤ 6)) (H ++ J) := by
  obtain ⟨J, e⟩ := few_loop k c hl es.length k 0 hk (by omega) H hP
  refine ⟨J, fun R K => ?_⟩
  simp only [Int.natCast_zero, List.drop_zero] at e
  unfold L_few L_few_b
  rw [e]
  have : decide (((es.length : Nat) : Int) ≤ 6) = decide (es.length ≤ 6) := by rw [decide_eq_decide]; omega
  rw [this]
  cases fewp es <;> rfl
/-- Lists of the same planes. -/
theorem sameAll_loop (k : Nat) (hk : 500 < k) {q1 q2 : Option Addr} {es1 es2 : List Pr} (c1 c2 : Nat) (hl : es1.length ≤ 6) (hm : es1.map Pr.pl = es2.map Pr.pl) (hf : ∀ e ∈ es1, e.xs.length ≤ 400) : ∀ (m n i : Nat), m < n → es1.length = i + m → ∀ (H : Heap), Pls H q1 es1 → Pls H q2 es2 → ∃ J, ∀ (R : Type) (KE : Heap → Option R) (KR : Bool → Heap → Option R), R02_SameAll_l0 k KE KR n q1 es1.length c1 q2 es2.length c2 (i : Int) H = KE (H ++ J) := by
  have hlen : es1.length = es2.length := by have := congrArg List.length hm; simpa using this
  intro m
  induction m with
  | zero =>
    intro n i hn hi H hP1 hP2
    obtain ⟨n, rfl⟩ : ∃ n', n = n' + 1 := ⟨n - 1, by omega⟩
    refine ⟨[], fun R KE KR => ?_⟩
    have ed : decide ((i : Int) < ((es1.length : Nat) : Int)) = false := decide_eq_false (by omega)
    rw [List.append_nil]
    simp only [R02_SameAll_l0, R02_SameAll_l0_b, ed, cond_false]
  | succ m ih =>
    intro n i hn hi H hP1 hP2
    obtain ⟨n, rfl⟩ : ∃ n', n = n' + 1 := ⟨n - 1, by omega⟩
    have ed : decide ((i : Int) < ((es1.length : Nat) : Int)) = true := decide_eq_true (by omega)
    obtain ⟨e, he, hd⟩ := get_of hi
    obtain ⟨f, hf', hd'⟩ := get_of (es := es2) (i := i) (m := m) (by omega)
    have hp : e.pl = f.pl := by
      have h1 : (es1.map Pr.pl)[i]? = some e.pl := by rw [List.getElem?_map, he]; rfl
      have h2 : (es2.map Pr.pl)[i]? = some f.pl := by rw [List.getElem?_map, hf']; rfl
      rw [hm, h2] at h1; exact (Option.some.inj h1).symm
    obtain ⟨x0, y0, x1, y1, xs, qf, cf⟩ := f
    simp only [Pr.pl, Prod.mk.injEq] at hp
    obtain ⟨p1, p2, p3, p4, p5⟩ := hp
    obtain ⟨b, o, e0, m0, m1, m2, m3, m4, hS⟩ := hP1.at he
    obtain ⟨b', o', e0', m0', m1', m2', m3', m4', hS'⟩ := hP2.at hf'
    simp only at m0' m1' m2' m3' m4' hS'
    rw [← p1] at m0'; rw [← p2] at m1'; rw [← p3] at m2'; rw [← p4] at m3'; rw [← p5] at m4' hS'
    obtain ⟨J1, e1⟩ := same_eq hk e.c cf hS hS' (hf e (List.mem_of_getElem? he)) e.x0 e.y0 e.x1 e.y1
    obtain ⟨J2, e2⟩ := ih n (i + 1) (by omega) (by omega) (H ++ J1) hP1.app hP2.app
    have w : IntKind.wrap .i64 ((i : Int) + 1) = ((i + 1 : Nat) : Int) := by rw [w64 (by omega) (by omega)]; omega
    refine ⟨J1 ++ J2, fun R KE KR => ?_⟩
    unfold R02_SameAll_l0 R02_SameAll_l0_b
    repeat (first | (with_reducible refine (e0 _ _).trans ?_) | (with_reducible refine (e0' _ _).trans ?_) | (with_reducible refine (e1 _ _).trans ?_) | ((with_reducible refine go_ip (x := ?_) ?_ ?_); rotate_left 1; (first  | exact m0 | exact m1 | exact m2 | exact m3 | exact m4 | exact m0' | exact m1' | exact m2' | exact m3' | exact m4' | rfl)) | ((with_reducible refine go_bp (x := ?_) ?_ ?_); rotate_left 1; (first  | exact m0 | exact m1 | exact m2 | exact m3 | exact m4 | exact m0' | exact m1' | exact m2' | exact m3' | exact m4' | rfl)) | ((with_reducible refine go_lp (x := ?_) (l := ?_) (c := ?_) ?_ ?_); rotate_left 3; (first  | exact m0 | exact m1 | exact m2 | exact m3 | exact m4 | exact m0' | exact m1' | exact m2' | exact m3' | exact m4' | rfl)) | ((with_reducible refine go_pp (x := ?_) ?_ ?_); rotate_left 1; (first  | exact m0 | exact m1 | exact m2 | exact m3 | exact m4 | exact m0' | exact m1' | exact m2' | exact m3' | exact m4' | rfl)) | ((with_reducible refine go_i (x := ?_) ?_ ?_); rotate_left 1; (first  | exact m0 | exact m1 | exact m2 | exact m3 | exact m4 | exact m0' | exact m1' | exact m2' | exact m3' | exact m4' | rfl)) | ((with_reducible refine go_b (x := ?_) ?_ ?_); rotate_left 1; (first  | exact m0 | exact m1 | exact m2 | exact m3 | exact m4 | exact m0' | exact m1' | exact m2' | exact m3' | exact m4' | rfl)) | ((with_reducible refine go_l (x := ?_) (l := ?_) (c := ?_) ?_ ?_); rotate_left 3; (first  | exact m0 | exact m1 | exact m2 | exact m3 | exact m4 | exact m0' | exact m1' | exact m2' | exact m3' | exact m4' | rfl)) | ((with_reducible refine go_p (x := ?_) ?_ ?_); rotate_left 1; (first  | exact m0 | exact m1 | exact m2 | exact m3 | exact m4 | exact m0' | exact m1' | exact m2' | exact m3' | exact m4' | rfl)) | (with_reducible refine go_hal ?_) | (with_reducible refine go_t ed ?_) | (with_reducible refine go_f ed ?_) | ((with_reducible refine go_t ?_ ?_); (show _ = true; rfl)) | ((with_reducible refine go_f ?_ ?_); (show _ = false; rfl)) | (with_reducible refine go_ne ?_) | (with_reducible refine go_eq ?_) | (with_reducible refine go_fad ?_) | (with_reducible refine go_nil ?_))
    rw [w, e2, List.append_assoc]
theorem sameAll_eq {k : Nat} (hk : 500 < k) {H : Heap} {q1 q2 : Option Addr} {es1 es2 : List Pr} (c1 c2 : Nat) (hl : es1.length ≤ 6) (hm : es1.map Pr.pl = es2.map Pr.pl) (hf : ∀ e ∈ es1, e.xs.length ≤ 400) (h1 : Pls H q1 es1) (h2 : Pls H q2 es2) : ∃ J, ∀ (R : Type) (K : Bool → Heap → Option R), R02_SameAll k q1 es1.length c1 q2 es2.length c2 H K = K true (H ++ J) := by
  obtain ⟨J, e⟩ := sameAll_loop k hk c1 c2 hl hm hf es1.length k 0 (by omega) (by omega) H h1 h2
  have hlen : es1.length = es2.length := by have := congrArg List.length hm; simpa using this
  refine ⟨J, fun R K => ?_⟩
  simp only [Int.natCast_zero] at e
  unfold R02_SameAll R02_SameAll_b
  have hc : (((es1.length : Nat) : Int) != ((es2.length : Nat) : Int)) = false := by rw [hlen]; simp
  refine go_f hc ?_
  exact e _ _ _
end Go.Proofs.Ytoeoolnkndkefaa.Sh
