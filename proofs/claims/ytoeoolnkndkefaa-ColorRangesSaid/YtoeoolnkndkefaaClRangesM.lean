/- ClRanges, in one text. -/
import Derived.Test.YtoeoolnkndkefaaClMa
import Derived.Test.YtoeoolnkndkefaaSh4
import Derived.Test.YtoeoolnkndkefaaSh9
import Derived.Test.YtoeoolnkndkefaaFwY
import Derived.Test.YtoeoolnkndkefaaSh8
import Derived.Test.YtoeoolnkndkefaaSh11
import Derived.Test.YtoeoolnkndkefaaSh2
import Derived.Test.YtoeoolnkndkefaaSh19
/- Color: lists of planes. -/
set_option linter.unusedVariables false
set_option linter.unusedSimpArgs false
namespace Go.Proofs.Ytoeoolnkndkefaa.Sh
open Go.Proofs.Ytoeoolnkndkefaa.FW
structure Pr where
  x0 : Int
  y0 : Int
  x1 : Int
  y1 : Int
  xs : List Int
  q : Option Addr
  c : Nat
def Pr.cells (e : Pr) : List Value := pl5 e.x0 e.y0 e.x1 e.y1 e.q e.xs.length e.c
def Pr.pl (e : Pr) : Int × Int × Int × Int × List Int := (e.x0, e.y0, e.x1, e.y1, e.xs)
def cellsOf (es : List Pr) : List Value := (es.map Pr.cells).flatten
theorem cellsOf_nil : cellsOf [] = [] := rfl
theorem cellsOf_cons (e : Pr) (es : List Pr) : cellsOf (e :: es) = e.cells ++ cellsOf es := rfl
theorem cells_len (e : Pr) : e.cells.length = 5 := rfl
theorem cellsOf_len (es : List Pr) : (cellsOf es).length = es.length * 5 := by
  induction es with
  | nil => rfl
  | cons e es ih => rw [cellsOf_cons, List.length_append, ih, cells_len, List.length_cons]; omega
theorem cellsOf_get {es : List Pr} {i : Nat} {e : Pr} (h : es[i]? = some e) {j : Nat} (hj : j < 5) : (cellsOf es)[i * 5 + j]? = e.cells[j]? := by
  induction es generalizing i with
  | nil => simp at h
  | cons a es ih =>
    rw [cellsOf_cons]
    cases i with
    | zero =>
      simp only [List.getElem?_cons_zero, Option.some.injEq] at h
      subst h
      rw [List.getElem?_append_left (by rw [cells_len]; omega)]
      simp
    | succ i =>
      rw [List.getElem?_append_right (by rw [cells_len]; omega), cells_len, show (i + 1) * 5 + j - 5 = i * 5 + j from by omega]
      exact ih (by simpa using h)
structure Pls (H : Heap) (q : Option Addr) (es : List Pr) : Prop where
  sh : Shows H q (cellsOf es)
  da : ∀ e ∈ es, Shows H e.q (ints e.xs)
theorem Pls.keep {H H' : Heap} {q : Option Addr} {es : List Pr} (h : Pls H q es) (o : Old H.length H H') : Pls H' q es := ⟨h.sh.keep o, fun e he => (h.da e he).keep o⟩
theorem Pls.app {H J : Heap} {q : Option Addr} {es : List Pr} (h : Pls H q es) : Pls (H ++ J) q es := h.keep (Old.app _ _)
theorem shows_take {H : Heap} {q : Option Addr} {a b : List Value} (h : Shows H q (a ++ b)) : Shows H q a := by
  rcases h with h | ⟨b', o, full, rfl, h1, h2, h3⟩
  · exact .inl (by cases a <;> simp_all)
  · refine .inr ⟨b', o, full, rfl, h1, ?_, ?_⟩
    · rw [List.length_append] at h2; omega
    · rw [List.length_append] at h3
      have := congrArg (List.take a.length) h3
      rw [List.take_take, Nat.min_eq_left (by omega), List.take_left'  rfl] at this
      exact this
theorem cellsOf_append (a b : List Pr) : cellsOf (a ++ b) = cellsOf a ++ cellsOf b := by simp [cellsOf]
theorem Pls.take {H : Heap} {q : Option Addr} {a b : List Pr} (h : Pls H q (a ++ b)) : Pls H q a := ⟨by have := h.sh; rw [cellsOf_append] at this; exact shows_take this, fun e he => h.da e (List.mem_append_left _ he)⟩
/-- An element of such a list. -/
theorem Pls.at {H : Heap} {q : Option Addr} {es : List Pr} (h : Pls H q es) {i : Nat} {e : Pr} (hi : es[i]? = some e) :
    ∃ b o, (∀ (R : Type) (K : Option Addr → Option R), hidx q es.length (i : Int) 5 K = K (some ⟨b, o, none⟩)) ∧ hcell H b (o + 0) = some (.int .i64 e.x0) ∧ hcell H b (o + 1) = some (.int .i64 e.y0) ∧ hcell H b (o + 2) = some (.int .i64 e.x1) ∧ hcell H b (o + 3) = some (.int .i64 e.y1) ∧ hcell H b (o + 4) = some (.slice e.q e.xs.length e.c) ∧ Shows H e.q (ints e.xs) := by
  have hlt : i < es.length := by
    rcases Nat.lt_or_ge i es.length with h | h
    · exact h
    · rw [List.getElem?_eq_none h] at hi; cases hi
  have hda := h.da e (List.mem_of_getElem? hi)
  rcases h.sh with hn | ⟨b, o, full, rfl, h1, h2, h3⟩
  · have := cellsOf_len es; rw [hn] at this; simp at this; omega
  · have hc := cellsOf_len es
    have key : ∀ j, j < 5 → hcell H b (o + i * 5 + j) = e.cells[j]? := by
      intro j hj
      have g := cellsOf_get hi hj
      rw [← h3, List.getElem?_take, if_pos (by omega), List.getElem?_drop] at g
      rw [h1.cell, ← g, show o + i * 5 + j = o + (i * 5 + j) from by omega]
    exact ⟨b, o + i * 5, fun R K => by simp only [hidx]; rw [if_pos ⟨by omega, by omega⟩, Int.toNat_natCast], key 0 (by omega), key 1 (by omega), key 2 (by omega), key 3 (by omega), key 4 (by omega), hda⟩
/-- Each plane has at most 400 samples. -/
def fewp (es : List Pr) : Bool := es.all fun e => decide (e.xs.length ≤ 400)
theorem bif_and {α : Type} (a b : Bool) (x y : α) : (bif a && b then x else y) = bif a then (bif b then x else y) else y := by cases a <;> rfl
theorem get_of {es : List Pr} {i m : Nat} (h : es.length = i + (m + 1)) : ∃ e, es[i]? = some e ∧ es.drop i = e :: es.drop (i + 1) := by
  have hlt : i < es.length := by omega
  exact ⟨es[i], List.getElem?_eq_getElem hlt, List.drop_eq_getElem_cons hlt⟩
theorem few_loop (k : Nat) {q : Option Addr} {es : List Pr} (c : Nat) (hl : es.length ≤ 9223372036854775807) : ∀ (m n i : Nat), m < n → es.length = i + m → ∀ (H : Heap), Pls H q es → ∃ J, ∀ (R : Type) (KE : Option Addr → Nat → Nat → Heap → Option R) (KR : Bool → Heap → Option R), L_few_l0 k KE KR n q es.length c (i : Int) H = bif fewp (es.drop i) then KE q es.length c (H ++ J) else KR false (H ++ J) := by
  intro m
  induction m with
  | zero =>
    intro n i hn hi H hP
    obtain ⟨n, rfl⟩ : ∃ n', n = n' + 1 := ⟨n - 1, by omega⟩
    refine ⟨[], fun R KE KR => ?_⟩
    have ed : decide ((i : Int) < ((es.length : Nat) : Int)) = false := decide_eq_false (by omega)
    rw [List.drop_of_length_le (by omega), List.append_nil]
    simp only [L_few_l0, L_few_l0_b, ed, cond_false]
    rfl
  | succ m ih =>
    intro n i hn hi H hP
    obtain ⟨n, rfl⟩ : ∃ n', n = n' + 1 := ⟨n - 1, by omega⟩
    have ed : decide ((i : Int) < ((es.length : Nat) : Int)) = true := decide_eq_true (by omega)
    obtain ⟨e, he, hd⟩ := get_of hi
    obtain ⟨b, o, e0, m0, m1, m2, m3, m4, hS⟩ := hP.at he
    obtain ⟨J1, e1⟩ := few1_eq e.x0 e.y0 e.x1 e.y1 e.q e.xs.length e.c H
    obtain ⟨J2, e2⟩ := ih n (i + 1) (by omega) (by omega) (H ++ J1) hP.app
    have w : IntKind.wrap .i64 ((i : Int) + 1) = ((i + 1 : Nat) : Int) := by rw [w64 (by omega) (by omega)]; omega
    rw [hd, show fewp (e :: es.drop (i + 1)) = (decide (e.xs.length ≤ 400) && fewp (es.drop (i + 1))) from rfl]
    cases hb : decide (e.xs.length ≤ 400) with
    | false =>
      refine ⟨J1, fun R KE KR => ?_⟩
      rw [hb] at e1
      unfold L_few_l0 L_few_l0_b
      repeat (first | (with_reducible refine (e0 _ _).trans ?_) | (with_reducible refine (e1 _ _).trans ?_) | ((with_reducible refine go_ip (x := ?_) ?_ ?_); rotate_left 1; (first  | exact m0 | exact m1 | exact m2 | exact m3 | exact m4 | rfl)) | ((with_reducible refine go_bp (x := ?_) ?_ ?_); rotate_left 1; (first  | exact m0 | exact m1 | exact m2 | exact m3 | exact m4 | rfl)) | ((with_reducible refine go_lp (x := ?_) (l := ?_) (c := ?_) ?_ ?_); rotate_left 3; (first  | exact m0 | exact m1 | exact m2 | exact m3 | exact m4 | rfl)) | ((with_reducible refine go_pp (x := ?_) ?_ ?_); rotate_left 1; (first  | exact m0 | exact m1 | exact m2 | exact m3 | exact m4 | rfl)) | ((with_reducible refine go_i (x := ?_) ?_ ?_); rotate_left 1; (first  | exact m0 | exact m1 | exact m2 | exact m3 | exact m4 | rfl)) | ((with_reducible refine go_b (x := ?_) ?_ ?_); rotate_left 1; (first  | exact m0 | exact m1 | exact m2 | exact m3 | exact m4 | rfl)) | ((with_reducible refine go_l (x := ?_) (l := ?_) (c := ?_) ?_ ?_); rotate_left 3; (first  | exact m0 | exact m1 | exact m2 | exact m3 | exact m4 | rfl)) | ((with_reducible refine go_p (x := ?_) ?_ ?_); rotate_left 1; (first  | exact m0 | exact m1 | exact m2 | exact m3 | exact m4 | rfl)) | (with_reducible refine go_hal ?_) | (with_reducible refine go_t ed ?_) | (with_reducible refine go_f ed ?_) | ((with_reducible refine go_t ?_ ?_); (show _ = true; rfl)) | ((with_reducible refine go_f ?_ ?_); (show _ = false; rfl)) | (with_reducible refine go_ne ?_) | (with_reducible refine go_eq ?_) | (with_reducible refine go_fad ?_) | (with_reducible refine go_nil ?_))
      rfl
    | true =>
      refine ⟨J1 ++ J2, fun R KE KR => ?_⟩
      rw [hb] at e1
      unfold L_few_l0 L_few_l0_b
      repeat (first | (with_reducible refine (e0 _ _).trans ?_) | (with_reducible refine (e1 _ _).trans ?_) | ((with_reducible refine go_ip (x := ?_) ?_ ?_); rotate_left 1; (first  | exact m0 | exact m1 | exact m2 | exact m3 | exact m4 | rfl)) | ((with_reducible refine go_bp (x := ?_) ?_ ?_); rotate_left 1; (first  | exact m0 | exact m1 | exact m2 | exact m3 | exact m4 | rfl)) | ((with_reducible refine go_lp (x := ?_) (l := ?_) (c := ?_) ?_ ?_); rotate_left 3; (first  | exact m0 | exact m1 | exact m2 | exact m3 | exact m4 | rfl)) | ((with_reducible refine go_pp (x := ?_) ?_ ?_); rotate_left 1; (first  | exact m0 | exact m1 | exact m2 | exact m3 | exact m4 | rfl)) | ((with_reducible refine go_i (x := ?_) ?_ ?_); rotate_left 1; (first  | exact m0 | exact m1 | exact m2 | exact m3 | exact m4 | rfl)) | ((with_reducible refine go_b (x := ?_) ?_ ?_); rotate_left 1; (first  | exact m0 | exact m1 | exact m2 | exact m3 | exact m4 | rfl)) | ((with_reducible refine go_l (x := ?_) (l := ?_) (c := ?_) ?_ ?_); rotate_left 3; (first  | exact m0 | exact m1 | exact m2 | exact m3 | exact m4 | rfl)) | ((with_reducible refine go_p (x := ?_) ?_ ?_); rotate_left 1; (first  | exact m0 | exact m1 | exact m2 | exact m3 | exact m4 | rfl)) | (with_reducible refine go_hal ?_) | (with_reducible refine go_t ed ?_) | (with_reducible refine go_f ed ?_) | ((with_reducible refine go_t ?_ ?_); (show _ = true; rfl)) | ((with_reducible refine go_f ?_ ?_); (show _ = false; rfl)) | (with_reducible refine go_ne ?_) | (with_reducible refine go_eq ?_) | (with_reducible refine go_fad ?_) | (with_reducible refine go_nil ?_))
      rw [w, e2, List.append_assoc]
      rfl
theorem few_eq {k : Nat} {H : Heap} {q : Option Addr} {es : List Pr} (c : Nat) (hk : es.length < k) (hl : es.length ≤ 9223372036854775807) (hP : Pls H q es) : ∃ J, ∀ (R : Type) (K : Bool → Heap → Option R), L_few k q es.length c H K = K (fewp es && decide (es.length ≤ 6)) (H ++ J) := by
  obtain ⟨J, e⟩ := few_loop k c hl es.length k 0 hk (by omega) H hP
  refine ⟨J, fun R K => ?_⟩
  simp only [Int.natCast_zero, List.drop_zero] at e
  unfold L_few L_few_b
  rw [e]
  have : decide (((es.length : Nat) : Int) ≤ 6) = decide (es.length ≤ 6) := by rw [decide_eq_decide]; omega
  rw [this]
  cases fewp es <;> rfl
/-- Lists of the same planes. -/
theorem sameAll_loop (k : Nat) (hk : 500 < k) {q1 q2 : Option Addr} {es1 es2 : List Pr} (c1 c2 : Nat) (hl : es1.length ≤ 6) (hm : es1.map Pr.pl = es2.map Pr.pl) (hf : ∀ e ∈ es1, e.xs.length ≤ 400) : ∀ (m n i : Nat), m < n → es1.length = i + m → ∀ (H : Heap), Pls H q1 es1 → Pls H q2 es2 → ∃ J, ∀ (R : Type) (KE : Heap → Option R) (KR : Bool → Heap → Option R), R02_SameAll_l0 k KE KR n q1 es1.length c1 q2 es2.length c2 (i : Int) H = KE (H ++ J) := by
  have hlen : es1.length = es2.length := by have := congrArg List.length hm; simpa using this
  intro m
  induction m with
  | zero =>
    intro n i hn hi H hP1 hP2
    obtain ⟨n, rfl⟩ : ∃ n', n = n' + 1 := ⟨n - 1, by omega⟩
    refine ⟨[], fun R KE KR => ?_⟩
    have ed : decide ((i : Int) < ((es1.length : Nat) : Int)) = false := decide_eq_false (by omega)
    rw [List.append_nil]
    simp only [R02_SameAll_l0, R02_SameAll_l0_b, ed, cond_false]
  | succ m ih =>
    intro n i hn hi H hP1 hP2
    obtain ⟨n, rfl⟩ : ∃ n', n = n' + 1 := ⟨n - 1, by omega⟩
    have ed : decide ((i : Int) < ((es1.length : Nat) : Int)) = true := decide_eq_true (by omega)
    obtain ⟨e, he, hd⟩ := get_of hi
    obtain ⟨f, hf', hd'⟩ := get_of (es := es2) (i := i) (m := m) (by omega)
    have hp : e.pl = f.pl := by
      have h1 : (es1.map Pr.pl)[i]? = some e.pl := by rw [List.getElem?_map, he]; rfl
      have h2 : (es2.map Pr.pl)[i]? = some f.pl := by rw [List.getElem?_map, hf']; rfl
      rw [hm, h2] at h1; exact (Option.some.inj h1).symm
    obtain ⟨x0, y0, x1, y1, xs, qf, cf⟩ := f
    simp only [Pr.pl, Prod.mk.injEq] at hp
    obtain ⟨p1, p2, p3, p4, p5⟩ := hp
    obtain ⟨b, o, e0, m0, m1, m2, m3, m4, hS⟩ := hP1.at he
    obtain ⟨b', o', e0', m0', m1', m2', m3', m4', hS'⟩ := hP2.at hf'
    simp only at m0' m1' m2' m3' m4' hS'
    rw [← p1] at m0'; rw [← p2] at m1'; rw [← p3] at m2'; rw [← p4] at m3'; rw [← p5] at m4' hS'
    obtain ⟨J1, e1⟩ := same_eq hk e.c cf hS hS' (hf e (List.mem_of_getElem? he)) e.x0 e.y0 e.x1 e.y1
    obtain ⟨J2, e2⟩ := ih n (i + 1) (by omega) (by omega) (H ++ J1) hP1.app hP2.app
    have w : IntKind.wrap .i64 ((i : Int) + 1) = ((i + 1 : Nat) : Int) := by rw [w64 (by omega) (by omega)]; omega
    refine ⟨J1 ++ J2, fun R KE KR => ?_⟩
    unfold R02_SameAll_l0 R02_SameAll_l0_b
    repeat (first | (with_reducible refine (e0 _ _).trans ?_) | (with_reducible refine (e0' _ _).trans ?_) | (with_reducible refine (e1 _ _).trans ?_) | ((with_reducible refine go_ip (x := ?_) ?_ ?_); rotate_left 1; (first  | exact m0 | exact m1 | exact m2 | exact m3 | exact m4 | exact m0' | exact m1' | exact m2' | exact m3' | exact m4' | rfl)) | ((with_reducible refine go_bp (x := ?_) ?_ ?_); rotate_left 1; (first  | exact m0 | exact m1 | exact m2 | exact m3 | exact m4 | exact m0' | exact m1' | exact m2' | exact m3' | exact m4' | rfl)) | ((with_reducible refine go_lp (x := ?_) (l := ?_) (c := ?_) ?_ ?_); rotate_left 3; (first  | exact m0 | exact m1 | exact m2 | exact m3 | exact m4 | exact m0' | exact m1' | exact m2' | exact m3' | exact m4' | rfl)) | ((with_reducible refine go_pp (x := ?_) ?_ ?_); rotate_left 1; (first  | exact m0 | exact m1 | exact m2 | exact m3 | exact m4 | exact m0' | exact m1' | exact m2' | exact m3' | exact m4' | rfl)) | ((with_reducible refine go_i (x := ?_) ?_ ?_); rotate_left 1; (first  | exact m0 | exact m1 | exact m2 | exact m3 | exact m4 | exact m0' | exact m1' | exact m2' | exact m3' | exact m4' | rfl)) | ((with_reducible refine go_b (x := ?_) ?_ ?_); rotate_left 1; (first  | exact m0 | exact m1 | exact m2 | exact m3 | exact m4 | exact m0' | exact m1' | exact m2' | exact m3' | exact m4' | rfl)) | ((with_reducible refine go_l (x := ?_) (l := ?_) (c := ?_) ?_ ?_); rotate_left 3; (first  | exact m0 | exact m1 | exact m2 | exact m3 | exact m4 | exact m0' | exact m1' | exact m2' | exact m3' | exact m4' | rfl)) | ((with_reducible refine go_p (x := ?_) ?_ ?_); rotate_left 1; (first  | exact m0 | exact m1 | exact m2 | exact m3 | exact m4 | exact m0' | exact m1' | exact m2' | exact m3' | exact m4' | rfl)) | (with_reducible refine go_hal ?_) | (with_reducible refine go_t ed ?_) | (with_reducible refine go_f ed ?_) | ((with_reducible refine go_t ?_ ?_); (show _ = true; rfl)) | ((with_reducible refine go_f ?_ ?_); (show _ = false; rfl)) | (with_reducible refine go_ne ?_) | (with_reducible refine go_eq ?_) | (with_reducible refine go_fad ?_) | (with_reducible refine go_nil ?_))
    rw [w, e2, List.append_assoc]
theorem sameAll_eq {k : Nat} (hk : 500 < k) {H : Heap} {q1 q2 : Option Addr} {es1 es2 : List Pr} (c1 c2 : Nat) (hl : es1.length ≤ 6) (hm : es1.map Pr.pl = es2.map Pr.pl) (hf : ∀ e ∈ es1, e.xs.length ≤ 400) (h1 : Pls H q1 es1) (h2 : Pls H q2 es2) : ∃ J, ∀ (R : Type) (K : Bool → Heap → Option R), R02_SameAll k q1 es1.length c1 q2 es2.length c2 H K = K true (H ++ J) := by
  obtain ⟨J, e⟩ := sameAll_loop k hk c1 c2 hl hm hf es1.length k 0 (by omega) (by omega) H h1 h2
  have hlen : es1.length = es2.length := by have := congrArg List.length hm; simpa using this
  refine ⟨J, fun R K => ?_⟩
  simp only [Int.natCast_zero] at e
  unfold R02_SameAll R02_SameAll_b
  have hc : (((es1.length : Nat) : Int) != ((es2.length : Nat) : Int)) = false := by rw [hlen]; simp
  refine go_f hc ?_
  exact e _ _ _
end Go.Proofs.Ytoeoolnkndkefaa.Sh
/- Color: the errors of Apply and Undo. -/
set_option linter.unusedVariables false
set_option linter.unusedSimpArgs false
namespace Go.Proofs.Ytoeoolnkndkefaa.Sh
open Go.Proofs.Ytoeoolnkndkefaa.FW
abbrev Pr.blk (e : Pr) : Option Blk := some ⟨[.int .i64 e.x0, .int .i64 e.y0, .int .i64 e.x1, .int .i64 e.y1, .slice e.q e.xs.length e.c], false, 0⟩
def okp (most : Int) (xs : List Int) : Bool := xs.all fun v => !decide (v > most) && !decide (v < IntKind.wrap .i64 (0 - most))
abbrev rq (e f : Pr) : Bool := ((((true && (e.x0 == f.x0)) && (e.y0 == f.y0)) && (e.x1 == f.x1)) && (e.y1 == f.y1))
def pvE (e : Pr) : Bool := pv e.x0 e.y0 e.x1 e.y1 e.xs.length
theorem rq_self (e : Pr) : rq e e = true := by simp [rq]
theorem rq_comm (e f : Pr) : rq e f = rq f e := by
  simp only [rq]
  rw [show (e.x0 == f.x0) = (f.x0 == e.x0) from Bool.beq_comm, show (e.y0 == f.y0) = (f.y0 == e.y0) from Bool.beq_comm, show (e.x1 == f.x1) = (f.x1 == e.x1) from Bool.beq_comm, show (e.y1 == f.y1) = (f.y1 == e.y1) from Bool.beq_comm]
def err3 (most : Int) : List Pr → Int
  | e0 :: e1 :: e2 :: _ => bif !([e0, e1, e2].all fun e => rq e e0) then 1 else bif !([e0, e1, e2].all fun e => okp most e.xs) then 2 else 0
  | _ => 4
def errv (t : Int) (es : List Pr) (most : Int) : Int := bif !kn t then 3 else bif !(es.all pvE) then 1 else bif t == 0 then 0 else err3 most es
theorem wnext {i l : Nat} (h : i < l) (hl : l ≤ 9223372036854775807) : IntKind.wrap .i64 ((i : Int) + 1) = ((i + 1 : Nat) : Int) := by rw [w64 (by omega) (by omega)]; omega
theorem drop_int {xs : List Int} {i m : Nat} (h : xs.length = i + (m + 1)) : xs.drop i = xs.getD i 0 :: xs.drop (i + 1) := by
  have hlt : i < xs.length := by omega
  rw [List.drop_eq_getElem_cons hlt, List.getD_eq_getElem?_getD, List.getElem?_eq_getElem hlt]; rfl
theorem check_l0 (k : Nat) (t most : Int) {q : Option Addr} {es : List Pr} (c : Nat) (hl : es.length ≤ 9223372036854775807) : ∀ (m n i : Nat), m < n → es.length = i + m → ∀ (H : Heap), Pls H q es → ∃ J, ∀ (R : Type) (KE : Int → Option Addr → Nat → Nat → Int → Heap → Option R) (KR : Int → Heap → Option R), color_check_l0 k KE KR n t q es.length c most q es.length c ((es.length : Nat) : Int) (i : Int) H = bif (es.drop i).all pvE then KE t q es.length c most (H ++ J) else KR 1 (H ++ J) := by
  intro m
  induction m with
  | zero =>
    intro n i hn hi H hP
    obtain ⟨n, rfl⟩ : ∃ n', n = n' + 1 := ⟨n - 1, by omega⟩
    refine ⟨[], fun R KE KR => ?_⟩
    have ed : decide ((i : Int) < ((es.length : Nat) : Int)) = false := decide_eq_false (by omega)
    rw [List.drop_of_length_le (by omega), List.append_nil]
    simp only [color_check_l0, color_check_l0_b, ed, cond_false]
    rfl
  | succ m ih =>
    intro n i hn hi H hP
    obtain ⟨n, rfl⟩ : ∃ n', n = n' + 1 := ⟨n - 1, by omega⟩
    have ed : decide ((i : Int) < ((es.length : Nat) : Int)) = true := decide_eq_true (by omega)
    obtain ⟨e, he, hd⟩ := get_of hi
    obtain ⟨b, o, e0, m0, m1, m2, m3, m4, hS⟩ := hP.at he
    obtain ⟨J1, e1⟩ := planeValid_eq e.x0 e.y0 e.x1 e.y1 e.q e.xs.length e.c (H ++ [e.blk])
    obtain ⟨J2, e2⟩ := ih n (i + 1) (by omega) (by omega) (H ++ [e.blk] ++ J1) hP.app.app
    have w := wnext (i := i) (l := es.length) (by omega) hl
    rw [hd, List.all_cons, show pvE e = pv e.x0 e.y0 e.x1 e.y1 e.xs.length from rfl]
    cases hb : pv e.x0 e.y0 e.x1 e.y1 e.xs.length with
    | false =>
      refine ⟨e.blk :: J1, fun R KE KR => ?_⟩
      rw [hb] at e1
      unfold color_check_l0 color_check_l0_b
      repeat (first | (with_reducible refine (e0 _ _).trans ?_) | (with_reducible refine (e1 _ _).trans ?_) | ((with_reducible refine go_ip (x := ?_) ?_ ?_); rotate_left 1; (first | ((with_reducible refine (hcell_new _ _ _).trans ?_); rfl) | exact m0 | exact m1 | exact m2 | exact m3 | exact m4 | rfl)) | ((with_reducible refine go_bp (x := ?_) ?_ ?_); rotate_left 1; (first | ((with_reducible refine (hcell_new _ _ _).trans ?_); rfl) | exact m0 | exact m1 | exact m2 | exact m3 | exact m4 | rfl)) | ((with_reducible refine go_lp (x := ?_) (l := ?_) (c := ?_) ?_ ?_); rotate_left 3; (first | ((with_reducible refine (hcell_new _ _ _).trans ?_); rfl) | exact m0 | exact m1 | exact m2 | exact m3 | exact m4 | rfl)) | ((with_reducible refine go_pp (x := ?_) ?_ ?_); rotate_left 1; (first | ((with_reducible refine (hcell_new _ _ _).trans ?_); rfl) | exact m0 | exact m1 | exact m2 | exact m3 | exact m4 | rfl)) | ((with_reducible refine go_i (x := ?_) ?_ ?_); rotate_left 1; (first | ((with_reducible refine (hcell_new _ _ _).trans ?_); rfl) | exact m0 | exact m1 | exact m2 | exact m3 | exact m4 | rfl)) | ((with_reducible refine go_b (x := ?_) ?_ ?_); rotate_left 1; (first | ((with_reducible refine (hcell_new _ _ _).trans ?_); rfl) | exact m0 | exact m1 | exact m2 | exact m3 | exact m4 | rfl)) | ((with_reducible refine go_l (x := ?_) (l := ?_) (c := ?_) ?_ ?_); rotate_left 3; (first | ((with_reducible refine (hcell_new _ _ _).trans ?_); rfl) | exact m0 | exact m1 | exact m2 | exact m3 | exact m4 | rfl)) | ((with_reducible refine go_p (x := ?_) ?_ ?_); rotate_left 1; (first | ((with_reducible refine (hcell_new _ _ _).trans ?_); rfl) | exact m0 | exact m1 | exact m2 | exact m3 | exact m4 | rfl)) | ((with_reducible refine go_halst rfl ?_ ?_ ?_); rfl; rfl) | (with_reducible refine go_halN rfl ?_) | (with_reducible refine go_t ed ?_) | (with_reducible refine go_f ed ?_) | ((with_reducible refine go_t ?_ ?_); (show _ = true; rfl)) | ((with_reducible refine go_f ?_ ?_); (show _ = false; rfl)) | (with_reducible refine go_ne ?_) | (with_reducible refine go_eq ?_) | (with_reducible refine go_fad ?_) | (with_reducible refine go_nil ?_))
      simp only [List.append_assoc]; rfl
    | true =>
      refine ⟨e.blk :: (J1 ++ J2), fun R KE KR => ?_⟩
      rw [hb] at e1
      unfold color_check_l0 color_check_l0_b
      repeat (first | (with_reducible refine (e0 _ _).trans ?_) | (with_reducible refine (e1 _ _).trans ?_) | ((with_reducible refine go_ip (x := ?_) ?_ ?_); rotate_left 1; (first | ((with_reducible refine (hcell_new _ _ _).trans ?_); rfl) | exact m0 | exact m1 | exact m2 | exact m3 | exact m4 | rfl)) | ((with_reducible refine go_bp (x := ?_) ?_ ?_); rotate_left 1; (first | ((with_reducible refine (hcell_new _ _ _).trans ?_); rfl) | exact m0 | exact m1 | exact m2 | exact m3 | exact m4 | rfl)) | ((with_reducible refine go_lp (x := ?_) (l := ?_) (c := ?_) ?_ ?_); rotate_left 3; (first | ((with_reducible refine (hcell_new _ _ _).trans ?_); rfl) | exact m0 | exact m1 | exact m2 | exact m3 | exact m4 | rfl)) | ((with_reducible refine go_pp (x := ?_) ?_ ?_); rotate_left 1; (first | ((with_reducible refine (hcell_new _ _ _).trans ?_); rfl) | exact m0 | exact m1 | exact m2 | exact m3 | exact m4 | rfl)) | ((with_reducible refine go_i (x := ?_) ?_ ?_); rotate_left 1; (first | ((with_reducible refine (hcell_new _ _ _).trans ?_); rfl) | exact m0 | exact m1 | exact m2 | exact m3 | exact m4 | rfl)) | ((with_reducible refine go_b (x := ?_) ?_ ?_); rotate_left 1; (first | ((with_reducible refine (hcell_new _ _ _).trans ?_); rfl) | exact m0 | exact m1 | exact m2 | exact m3 | exact m4 | rfl)) | ((with_reducible refine go_l (x := ?_) (l := ?_) (c := ?_) ?_ ?_); rotate_left 3; (first | ((with_reducible refine (hcell_new _ _ _).trans ?_); rfl) | exact m0 | exact m1 | exact m2 | exact m3 | exact m4 | rfl)) | ((with_reducible refine go_p (x := ?_) ?_ ?_); rotate_left 1; (first | ((with_reducible refine (hcell_new _ _ _).trans ?_); rfl) | exact m0 | exact m1 | exact m2 | exact m3 | exact m4 | rfl)) | ((with_reducible refine go_halst rfl ?_ ?_ ?_); rfl; rfl) | (with_reducible refine go_halN rfl ?_) | (with_reducible refine go_t ed ?_) | (with_reducible refine go_f ed ?_) | ((with_reducible refine go_t ?_ ?_); (show _ = true; rfl)) | ((with_reducible refine go_f ?_ ?_); (show _ = false; rfl)) | (with_reducible refine go_ne ?_) | (with_reducible refine go_eq ?_) | (with_reducible refine go_fad ?_) | (with_reducible refine go_nil ?_))
      rw [w, e2]
      simp only [List.append_assoc]; rfl
theorem check_l1 (k : Nat) (most : Int) {q : Option Addr} {es a : List Pr} {f : Pr} (c c' : Nat) (hl : a.length ≤ 9223372036854775807) (hf : es[0]? = some f) : ∀ (m n i : Nat), m < n → a.length = i + m → ∀ (H : Heap), Pls H q es → Pls H q a → ∃ J, ∀ (R : Type) (KE : Option Addr → Nat → Nat → Int → Heap → Option R) (KR : Int → Heap → Option R), color_check_l1 k KE KR n q es.length c most q a.length c' ((a.length : Nat) : Int) (i : Int) H = bif (a.drop i).all (fun e => rq e f) then KE q es.length c most (H ++ J) else KR 1 (H ++ J) := by
  intro m
  induction m with
  | zero =>
    intro n i hn hi H hP hA
    obtain ⟨n, rfl⟩ : ∃ n', n = n' + 1 := ⟨n - 1, by omega⟩
    refine ⟨[], fun R KE KR => ?_⟩
    have ed : decide ((i : Int) < ((a.length : Nat) : Int)) = false := decide_eq_false (by omega)
    rw [List.drop_of_length_le (by omega), List.append_nil]
    simp only [color_check_l1, color_check_l1_b, ed, cond_false]
    rfl
  | succ m ih =>
    intro n i hn hi H hP hA
    obtain ⟨n, rfl⟩ : ∃ n', n = n' + 1 := ⟨n - 1, by omega⟩
    have ed : decide ((i : Int) < ((a.length : Nat) : Int)) = true := decide_eq_true (by omega)
    obtain ⟨e, he, hd⟩ := get_of hi
    obtain ⟨b, o, e0, m0, m1, m2, m3, m4, hS⟩ := hA.at he
    obtain ⟨b', o', e0', m0', m1', m2', m3', m4', hS'⟩ := (hP.app (J := [e.blk])).at hf
    simp only [Int.natCast_zero] at e0'
    obtain ⟨J2, e2⟩ := ih n (i + 1) (by omega) (by omega) (H ++ [e.blk]) hP.app hA.app
    have w := wnext (i := i) (l := a.length) (by omega) hl
    rw [hd, List.all_cons]
    cases hb : rq e f with
    | false =>
      refine ⟨[e.blk], fun R KE KR => ?_⟩
      have hb' : (!(rq e f)) = true := by rw [hb]; rfl
      unfold color_check_l1 color_check_l1_b
      repeat (first | (with_reducible refine (e0 _ _).trans ?_) | (with_reducible refine (e0' _ _).trans ?_) | ((with_reducible refine go_ip (x := ?_) ?_ ?_); rotate_left 1; (first | ((with_reducible refine (hcell_new _ _ _).trans ?_); rfl) | exact m0 | exact m1 | exact m2 | exact m3 | exact m4 | exact m0' | exact m1' | exact m2' | exact m3' | exact m4' | rfl)) | ((with_reducible refine go_bp (x := ?_) ?_ ?_); rotate_left 1; (first | ((with_reducible refine (hcell_new _ _ _).trans ?_); rfl) | exact m0 | exact m1 | exact m2 | exact m3 | exact m4 | exact m0' | exact m1' | exact m2' | exact m3' | exact m4' | rfl)) | ((with_reducible refine go_lp (x := ?_) (l := ?_) (c := ?_) ?_ ?_); rotate_left 3; (first | ((with_reducible refine (hcell_new _ _ _).trans ?_); rfl) | exact m0 | exact m1 | exact m2 | exact m3 | exact m4 | exact m0' | exact m1' | exact m2' | exact m3' | exact m4' | rfl)) | ((with_reducible refine go_pp (x := ?_) ?_ ?_); rotate_left 1; (first | ((with_reducible refine (hcell_new _ _ _).trans ?_); rfl) | exact m0 | exact m1 | exact m2 | exact m3 | exact m4 | exact m0' | exact m1' | exact m2' | exact m3' | exact m4' | rfl)) | ((with_reducible refine go_i (x := ?_) ?_ ?_); rotate_left 1; (first | ((with_reducible refine (hcell_new _ _ _).trans ?_); rfl) | exact m0 | exact m1 | exact m2 | exact m3 | exact m4 | exact m0' | exact m1' | exact m2' | exact m3' | exact m4' | rfl)) | ((with_reducible refine go_b (x := ?_) ?_ ?_); rotate_left 1; (first | ((with_reducible refine (hcell_new _ _ _).trans ?_); rfl) | exact m0 | exact m1 | exact m2 | exact m3 | exact m4 | exact m0' | exact m1' | exact m2' | exact m3' | exact m4' | rfl)) | ((with_reducible refine go_l (x := ?_) (l := ?_) (c := ?_) ?_ ?_); rotate_left 3; (first | ((with_reducible refine (hcell_new _ _ _).trans ?_); rfl) | exact m0 | exact m1 | exact m2 | exact m3 | exact m4 | exact m0' | exact m1' | exact m2' | exact m3' | exact m4' | rfl)) | ((with_reducible refine go_p (x := ?_) ?_ ?_); rotate_left 1; (first | ((with_reducible refine (hcell_new _ _ _).trans ?_); rfl) | exact m0 | exact m1 | exact m2 | exact m3 | exact m4 | exact m0' | exact m1' | exact m2' | exact m3' | exact m4' | rfl)) | ((with_reducible refine go_halst rfl ?_ ?_ ?_); rfl; rfl) | (with_reducible refine go_halN rfl ?_) | (with_reducible refine go_t ed ?_) | (with_reducible refine go_f ed ?_) | (with_reducible refine go_t hb' ?_) | (with_reducible refine go_f hb' ?_) | ((with_reducible refine go_t ?_ ?_); (show _ = true; rfl)) | ((with_reducible refine go_f ?_ ?_); (show _ = false; rfl)) | (with_reducible refine go_ne ?_) | (with_reducible refine go_eq ?_) | (with_reducible refine go_fad ?_) | (with_reducible refine go_nil ?_))
      rfl
    | true =>
      refine ⟨e.blk :: J2, fun R KE KR => ?_⟩
      have hb' : (!(rq e f)) = false := by rw [hb]; rfl
      unfold color_check_l1 color_check_l1_b
      repeat (first | (with_reducible refine (e0 _ _).trans ?_) | (with_reducible refine (e0' _ _).trans ?_) | ((with_reducible refine go_ip (x := ?_) ?_ ?_); rotate_left 1; (first | ((with_reducible refine (hcell_new _ _ _).trans ?_); rfl) | exact m0 | exact m1 | exact m2 | exact m3 | exact m4 | exact m0' | exact m1' | exact m2' | exact m3' | exact m4' | rfl)) | ((with_reducible refine go_bp (x := ?_) ?_ ?_); rotate_left 1; (first | ((with_reducible refine (hcell_new _ _ _).trans ?_); rfl) | exact m0 | exact m1 | exact m2 | exact m3 | exact m4 | exact m0' | exact m1' | exact m2' | exact m3' | exact m4' | rfl)) | ((with_reducible refine go_lp (x := ?_) (l := ?_) (c := ?_) ?_ ?_); rotate_left 3; (first | ((with_reducible refine (hcell_new _ _ _).trans ?_); rfl) | exact m0 | exact m1 | exact m2 | exact m3 | exact m4 | exact m0' | exact m1' | exact m2' | exact m3' | exact m4' | rfl)) | ((with_reducible refine go_pp (x := ?_) ?_ ?_); rotate_left 1; (first | ((with_reducible refine (hcell_new _ _ _).trans ?_); rfl) | exact m0 | exact m1 | exact m2 | exact m3 | exact m4 | exact m0' | exact m1' | exact m2' | exact m3' | exact m4' | rfl)) | ((with_reducible refine go_i (x := ?_) ?_ ?_); rotate_left 1; (first | ((with_reducible refine (hcell_new _ _ _).trans ?_); rfl) | exact m0 | exact m1 | exact m2 | exact m3 | exact m4 | exact m0' | exact m1' | exact m2' | exact m3' | exact m4' | rfl)) | ((with_reducible refine go_b (x := ?_) ?_ ?_); rotate_left 1; (first | ((with_reducible refine (hcell_new _ _ _).trans ?_); rfl) | exact m0 | exact m1 | exact m2 | exact m3 | exact m4 | exact m0' | exact m1' | exact m2' | exact m3' | exact m4' | rfl)) | ((with_reducible refine go_l (x := ?_) (l := ?_) (c := ?_) ?_ ?_); rotate_left 3; (first | ((with_reducible refine (hcell_new _ _ _).trans ?_); rfl) | exact m0 | exact m1 | exact m2 | exact m3 | exact m4 | exact m0' | exact m1' | exact m2' | exact m3' | exact m4' | rfl)) | ((with_reducible refine go_p (x := ?_) ?_ ?_); rotate_left 1; (first | ((with_reducible refine (hcell_new _ _ _).trans ?_); rfl) | exact m0 | exact m1 | exact m2 | exact m3 | exact m4 | exact m0' | exact m1' | exact m2' | exact m3' | exact m4' | rfl)) | ((with_reducible refine go_halst rfl ?_ ?_ ?_); rfl; rfl) | (with_reducible refine go_halN rfl ?_) | (with_reducible refine go_t ed ?_) | (with_reducible refine go_f ed ?_) | (with_reducible refine go_t hb' ?_) | (with_reducible refine go_f hb' ?_) | ((with_reducible refine go_t ?_ ?_); (show _ = true; rfl)) | ((with_reducible refine go_f ?_ ?_); (show _ = false; rfl)) | (with_reducible refine go_ne ?_) | (with_reducible refine go_eq ?_) | (with_reducible refine go_fad ?_) | (with_reducible refine go_nil ?_))
      rw [w, e2]
      simp only [List.append_assoc]; rfl
theorem check_l3 (k : Nat) (most : Int) {q : Option Addr} {xs : List Int} (c : Nat) (hl : xs.length ≤ 400) (q3 : Option Addr) (l3 c3 : Nat) (nn jj : Int) {H : Heap} (hS : Shows H q (ints xs)) : ∀ (m n i : Nat), m < n → xs.length = i + m → ∀ (R : Type) (KE : Int → Option Addr → Nat → Nat → Int → Int → Option R) (KR : Int → Option R), color_check_l3 k KE KR n most q3 l3 c3 nn jj q xs.length c ((xs.length : Nat) : Int) (i : Int) H = bif okp most (xs.drop i) then KE most q3 l3 c3 nn jj else KR 2 := by
  intro m
  induction m with
  | zero =>
    intro n i hn hi R KE KR
    obtain ⟨n, rfl⟩ : ∃ n', n = n' + 1 := ⟨n - 1, by omega⟩
    have ed : decide ((i : Int) < ((xs.length : Nat) : Int)) = false := decide_eq_false (by omega)
    rw [List.drop_of_length_le (by omega)]
    simp only [color_check_l3, color_check_l3_b, ed, cond_false]
    rfl
  | succ m ih =>
    intro n i hn hi R KE KR
    obtain ⟨n, rfl⟩ : ∃ n', n = n' + 1 := ⟨n - 1, by omega⟩
    have ed : decide ((i : Int) < ((xs.length : Nat) : Int)) = true := decide_eq_true (by omega)
    obtain ⟨p, e1, l1⟩ := int_at hS (i := i) (by omega)
    rw [drop_int hi, show okp most (xs.getD i 0 :: xs.drop (i + 1)) = ((!decide (xs.getD i 0 > most) && !decide (xs.getD i 0 < IntKind.wrap .i64 (0 - most))) && okp most (xs.drop (i + 1))) from rfl]
    have w := wnext (i := i) (l := xs.length) (by omega) (by omega)
    simp only [color_check_l3, color_check_l3_b, color_check_p4, color_check_p4_b, ed, cond_true, e1, l1, w, ih n (i + 1) (by omega) (by omega)]
    cases decide (xs.getD i 0 > most) <;> cases decide (xs.getD i 0 < IntKind.wrap .i64 (0 - most)) <;> rfl
theorem check_l2 (k : Nat) (hk : 400 < k) (most : Int) {q : Option Addr} {a : List Pr} (c' : Nat) (hl : a.length ≤ 9223372036854775807) (hx : ∀ e ∈ a, e.xs.length ≤ 400) : ∀ (m n i : Nat), m < n → a.length = i + m → ∀ (H : Heap), Pls H q a → ∃ J, ∀ (R : Type) (KE : Heap → Option R) (KR : Int → Heap → Option R), color_check_l2 k KE KR n most q a.length c' ((a.length : Nat) : Int) (i : Int) H = bif (a.drop i).all (fun e => okp most e.xs) then KE (H ++ J) else KR 2 (H ++ J) := by
  intro m
  induction m with
  | zero =>
    intro n i hn hi H hA
    obtain ⟨n, rfl⟩ : ∃ n', n = n' + 1 := ⟨n - 1, by omega⟩
    refine ⟨[], fun R KE KR => ?_⟩
    have ed : decide ((i : Int) < ((a.length : Nat) : Int)) = false := decide_eq_false (by omega)
    rw [List.drop_of_length_le (by omega), List.append_nil]
    simp only [color_check_l2, color_check_l2_b, ed, cond_false]
    rfl
  | succ m ih =>
    intro n i hn hi H hA
    obtain ⟨n, rfl⟩ : ∃ n', n = n' + 1 := ⟨n - 1, by omega⟩
    have ed : decide ((i : Int) < ((a.length : Nat) : Int)) = true := decide_eq_true (by omega)
    obtain ⟨e, he, hd⟩ := get_of hi
    obtain ⟨b, o, e0, m0, m1, m2, m3, m4, hS⟩ := hA.at he
    obtain ⟨J2, e2⟩ := ih n (i + 1) (by omega) (by omega) (H ++ [e.blk]) hA.app
    have e3 := fun R KE KR => check_l3 k most e.c (hx e (List.mem_of_getElem? he)) q a.length c' ((a.length : Nat) : Int) (i : Int) (hS.keep (Old.app H [e.blk])) e.xs.length k 0 (by have := hx e (List.mem_of_getElem? he); omega) (by omega) R KE KR
    simp only [Int.natCast_zero, List.drop_zero] at e3
    have w := wnext (i := i) (l := a.length) (by omega) hl
    rw [hd, List.all_cons]
    refine ⟨e.blk :: bif okp most e.xs then J2 else [], fun R KE KR => ?_⟩
    unfold color_check_l2 color_check_l2_b
    repeat (first | (with_reducible refine (e0 _ _).trans ?_) | ((with_reducible refine go_ip (x := ?_) ?_ ?_); rotate_left 1; (first | ((with_reducible refine (hcell_new _ _ _).trans ?_); rfl) | exact m0 | exact m1 | exact m2 | exact m3 | exact m4 | rfl)) | ((with_reducible refine go_bp (x := ?_) ?_ ?_); rotate_left 1; (first | ((with_reducible refine (hcell_new _ _ _).trans ?_); rfl) | exact m0 | exact m1 | exact m2 | exact m3 | exact m4 | rfl)) | ((with_reducible refine go_lp (x := ?_) (l := ?_) (c := ?_) ?_ ?_); rotate_left 3; (first | ((with_reducible refine (hcell_new _ _ _).trans ?_); rfl) | exact m0 | exact m1 | exact m2 | exact m3 | exact m4 | rfl)) | ((with_reducible refine go_pp (x := ?_) ?_ ?_); rotate_left 1; (first | ((with_reducible refine (hcell_new _ _ _).trans ?_); rfl) | exact m0 | exact m1 | exact m2 | exact m3 | exact m4 | rfl)) | ((with_reducible refine go_i (x := ?_) ?_ ?_); rotate_left 1; (first | ((with_reducible refine (hcell_new _ _ _).trans ?_); rfl) | exact m0 | exact m1 | exact m2 | exact m3 | exact m4 | rfl)) | ((with_reducible refine go_b (x := ?_) ?_ ?_); rotate_left 1; (first | ((with_reducible refine (hcell_new _ _ _).trans ?_); rfl) | exact m0 | exact m1 | exact m2 | exact m3 | exact m4 | rfl)) | ((with_reducible refine go_l (x := ?_) (l := ?_) (c := ?_) ?_ ?_); rotate_left 3; (first | ((with_reducible refine (hcell_new _ _ _).trans ?_); rfl) | exact m0 | exact m1 | exact m2 | exact m3 | exact m4 | rfl)) | ((with_reducible refine go_p (x := ?_) ?_ ?_); rotate_left 1; (first | ((with_reducible refine (hcell_new _ _ _).trans ?_); rfl) | exact m0 | exact m1 | exact m2 | exact m3 | exact m4 | rfl)) | ((with_reducible refine go_halst rfl ?_ ?_ ?_); rfl; rfl) | (with_reducible refine go_halN rfl ?_) | (with_reducible refine go_t ed ?_) | (with_reducible refine go_f ed ?_) | ((with_reducible refine go_t ?_ ?_); (show _ = true; rfl)) | ((with_reducible refine go_f ?_ ?_); (show _ = false; rfl)) | (with_reducible refine go_ne ?_) | (with_reducible refine go_eq ?_) | (with_reducible refine go_fad ?_) | (with_reducible refine go_nil ?_))
    refine (e3 _ _ _).trans ?_
    rw [w, e2]
    cases okp most e.xs with
    | false => rfl
    | true => simp only [List.append_assoc, Bool.true_and, cond_true]; rfl
end Go.Proofs.Ytoeoolnkndkefaa.Sh
/- Color: the errors of Apply and Undo, the program's and the reference's. -/
set_option linter.unusedVariables false
set_option linter.unusedSimpArgs false
namespace Go.Proofs.Ytoeoolnkndkefaa.Sh
open Go.Proofs.Ytoeoolnkndkefaa.FW
theorem hslc3 {q : Option Addr} {l c : Nat} (h3 : 3 ≤ l) (hc : l ≤ c ∨ (c = unk ∧ l < unk)) (hq : c = unk → q.isSome = true) (hu : c ≤ 9223372036854775807 ∨ c = unk) : (∃ c', ∀ (R : Type) (K : Option Addr → Nat → Nat → Option R), hslc 5 q l c none (some 3) none K = K q 3 c') := by
  by_cases hcu : c = unk
  · refine ⟨unk, fun R K => ?_⟩
    unfold hslc
    simp only [Option.getD_none, Option.getD_some]
    rw [if_pos ⟨by omega, by omega, by have : 3 ≤ c := by { rw [hcu]; unfold unk; omega }; omega, by rw [if_pos hcu]; exact ⟨hq hcu, .inr ⟨rfl, by omega⟩⟩⟩, if_pos ⟨hcu, rfl⟩, if_pos trivial, ← hcu]
    rfl
  · have hlc : l ≤ c := by rcases hc with h | h; exact h; exact absurd h.1 hcu
    have hlt : c < unk := by rcases hu with h | h; (unfold unk; omega); exact absurd h hcu
    refine ⟨c, fun R K => ?_⟩
    unfold hslc
    simp only [Option.getD_none, Option.getD_some]
    rw [if_pos ⟨by omega, by omega, by omega, by rw [if_neg hcu]; exact ⟨by omega, hlt⟩⟩, if_neg (fun h => hcu h.1), if_neg (by omega)]
    cases q <;> rfl
/-- How such a list's capacity may be. -/
def CapOk (q : Option Addr) (l c : Nat) : Prop := (l ≤ c ∧ c ≤ 9223372036854775807) ∨ (c = unk ∧ l ≤ 9223372036854775807 ∧ q.isSome = true)
theorem three {es : List Pr} (h : 3 ≤ es.length) : ∃ a b c r, es = a :: b :: c :: r := by
  match es, h with
  | a :: b :: c :: r, _ => exact ⟨a, b, c, r, rfl⟩
theorem check_eq {k : Nat} (hk : 500 < k) (t most : Int) {H : Heap} {q : Option Addr} {es : List Pr} (c : Nat) (hkl : es.length < k) (hl : es.length ≤ 9223372036854775807) (hP : Pls H q es) (hx : ∀ e ∈ es, e.xs.length ≤ 400) (hC : CapOk q es.length c) : ∃ J, ∀ (R : Type) (K : Int → Heap → Option R), color_check k t q es.length c most H K = K (errv t es most) (H ++ J) := by
  unfold color_check color_check_b errv
  cases h1 : kn t with
  | false =>
    refine ⟨[], fun R K => ?_⟩
    rw [known_eq, h1, List.append_nil]
    rfl
  | true =>
    have h1' : (!kn t) = false := by rw [h1]; rfl
    obtain ⟨J1, e1⟩ := check_l0 k t most c hl es.length k 0 hkl (by omega) H hP
    simp only [Int.natCast_zero, List.drop_zero] at e1
    cases h2 : es.all pvE with
    | false =>
      refine ⟨J1, fun R K => ?_⟩
      rw [h2] at e1
      rw [known_eq]
      refine go_f h1' ?_
      exact e1 _ _ _
    | true =>
      rw [h2] at e1
      simp only [cond_true] at e1
      cases h3 : t == 0 with
      | true =>
        refine ⟨J1, fun R K => ?_⟩
        rw [known_eq]
        refine go_f h1' ?_
        refine (e1 _ _ _).trans ?_
        exact go_t h3 rfl
      | false =>
        by_cases h4 : es.length < 3
        · refine ⟨J1, fun R K => ?_⟩
          rw [known_eq]
          refine go_f h1' ?_
          refine (e1 _ _ _).trans ?_
          refine go_f h3 ?_
          refine go_t (decide_eq_true (by omega)) ?_
          match es, h4 with
          | [], _ => rfl
          | [_], _ => rfl
          | [_, _], _ => rfl
        · obtain ⟨f0, f1, f2, r, rfl⟩ := three (es := es) (by omega)
          obtain ⟨c', e4⟩ := hslc3 (q := q) (l := (f0 :: f1 :: f2 :: r).length) (c := c) (by omega) (by rcases hC with h | h; exact .inl h.1; exact .inr ⟨h.1, by unfold unk; have := h.2.1; omega⟩) (by rcases hC with h | h; (intro hh; unfold unk at hh; omega); exact fun _ => h.2.2) (by rcases hC with h | h; exact .inl h.2; exact .inr h.1)
          have hA : Pls H q [f0, f1, f2] := Pls.take (b := r) hP
          obtain ⟨J2, e5⟩ := check_l1 (es := f0 :: f1 :: f2 :: r) (a := [f0, f1, f2]) (f := f0) k most c c' (by simp) rfl 3 k 0 (by omega) (by simp) (H ++ J1) hP.app hA.app
          obtain ⟨J3, e6⟩ := check_l2 (a := [f0, f1, f2]) k (by omega) most c' (by simp) (fun e he => hx e (by simp only [List.mem_cons, List.not_mem_nil, or_false] at he ⊢; rcases he with h | h | h <;> simp [h])) 3 k 0 (by omega) (by simp) (H ++ J1 ++ J2) hA.app.app
          simp only [Int.natCast_zero, List.drop_zero] at e5 e6
          have h4' : decide (((((f0 :: f1 :: f2 :: r).length : Nat) : Int)) < 3) = false := decide_eq_false (by omega)
          simp only [err3]
          refine ⟨J1 ++ (J2 ++ bif [f0, f1, f2].all (fun e => rq e f0) then J3 else []), fun R K => ?_⟩
          rw [known_eq]
          refine go_f h1' ?_
          refine (e1 _ _ _).trans ?_
          refine go_f h3 ?_
          refine go_f h4' ?_
          refine (e4 _ _).trans ?_
          refine (e5 _ _ _).trans ?_
          cases h5 : [f0, f1, f2].all (fun e => rq e f0) with
          | false => simp only [List.append_assoc, cond_false, List.append_nil]; rfl
          | true =>
            refine go_t rfl ?_
            refine (e4 _ _).trans ?_
            refine (e6 _ _ _).trans ?_
            simp only [List.append_assoc, cond_true]
            cases [f0, f1, f2].all (fun e => okp most e.xs) <;> rfl
theorem errors_l0 (k : Nat) (t most : Int) {q : Option Addr} {es : List Pr} (c : Nat) (hl : es.length ≤ 9223372036854775807) : ∀ (m n i : Nat), m < n → es.length = i + m → ∀ (H : Heap), Pls H q es → ∃ J, ∀ (R : Type) (KE : Int → Option Addr → Nat → Nat → Int → Heap → Option R) (KR : Int → Heap → Option R), R07_errors_l0 k KE KR n t q es.length c most (i : Int) H = bif (es.drop i).all pvE then KE t q es.length c most (H ++ J) else KR 1 (H ++ J) := by
  intro m
  induction m with
  | zero =>
    intro n i hn hi H hP
    obtain ⟨n, rfl⟩ : ∃ n', n = n' + 1 := ⟨n - 1, by omega⟩
    refine ⟨[], fun R KE KR => ?_⟩
    have ed : decide ((i : Int) < ((es.length : Nat) : Int)) = false := decide_eq_false (by omega)
    rw [List.drop_of_length_le (by omega), List.append_nil]
    simp only [R07_errors_l0, R07_errors_l0_b, ed, cond_false]
    rfl
  | succ m ih =>
    intro n i hn hi H hP
    obtain ⟨n, rfl⟩ : ∃ n', n = n' + 1 := ⟨n - 1, by omega⟩
    have ed : decide ((i : Int) < ((es.length : Nat) : Int)) = true := decide_eq_true (by omega)
    obtain ⟨e, he, hd⟩ := get_of hi
    obtain ⟨b, o, e0, m0, m1, m2, m3, m4, hS⟩ := hP.at he
    obtain ⟨J1, e1⟩ := planeValidR_eq e.x0 e.y0 e.x1 e.y1 e.q e.xs.length e.c H
    obtain ⟨J2, e2⟩ := ih n (i + 1) (by omega) (by omega) (H ++ J1) hP.app
    have w := wnext (i := i) (l := es.length) (by omega) hl
    rw [hd, List.all_cons, show pvE e = pv e.x0 e.y0 e.x1 e.y1 e.xs.length from rfl]
    refine ⟨J1 ++ bif pv e.x0 e.y0 e.x1 e.y1 e.xs.length then J2 else [], fun R KE KR => ?_⟩
    unfold R07_errors_l0 R07_errors_l0_b
    repeat (first | (with_reducible refine (e0 _ _).trans ?_) | (with_reducible refine (e1 _ _).trans ?_) | ((with_reducible refine go_ip (x := ?_) ?_ ?_); rotate_left 1; (first | ((with_reducible refine (hcell_new _ _ _).trans ?_); rfl) | exact m0 | exact m1 | exact m2 | exact m3 | exact m4 | rfl)) | ((with_reducible refine go_bp (x := ?_) ?_ ?_); rotate_left 1; (first | ((with_reducible refine (hcell_new _ _ _).trans ?_); rfl) | exact m0 | exact m1 | exact m2 | exact m3 | exact m4 | rfl)) | ((with_reducible refine go_lp (x := ?_) (l := ?_) (c := ?_) ?_ ?_); rotate_left 3; (first | ((with_reducible refine (hcell_new _ _ _).trans ?_); rfl) | exact m0 | exact m1 | exact m2 | exact m3 | exact m4 | rfl)) | ((with_reducible refine go_pp (x := ?_) ?_ ?_); rotate_left 1; (first | ((with_reducible refine (hcell_new _ _ _).trans ?_); rfl) | exact m0 | exact m1 | exact m2 | exact m3 | exact m4 | rfl)) | ((with_reducible refine go_i (x := ?_) ?_ ?_); rotate_left 1; (first | ((with_reducible refine (hcell_new _ _ _).trans ?_); rfl) | exact m0 | exact m1 | exact m2 | exact m3 | exact m4 | rfl)) | ((with_reducible refine go_b (x := ?_) ?_ ?_); rotate_left 1; (first | ((with_reducible refine (hcell_new _ _ _).trans ?_); rfl) | exact m0 | exact m1 | exact m2 | exact m3 | exact m4 | rfl)) | ((with_reducible refine go_l (x := ?_) (l := ?_) (c := ?_) ?_ ?_); rotate_left 3; (first | ((with_reducible refine (hcell_new _ _ _).trans ?_); rfl) | exact m0 | exact m1 | exact m2 | exact m3 | exact m4 | rfl)) | ((with_reducible refine go_p (x := ?_) ?_ ?_); rotate_left 1; (first | ((with_reducible refine (hcell_new _ _ _).trans ?_); rfl) | exact m0 | exact m1 | exact m2 | exact m3 | exact m4 | rfl)) | ((with_reducible refine go_halst rfl ?_ ?_ ?_); rfl; rfl) | (with_reducible refine go_halN rfl ?_) | (with_reducible refine go_t ed ?_) | (with_reducible refine go_f ed ?_) | ((with_reducible refine go_t ?_ ?_); (show _ = true; rfl)) | ((with_reducible refine go_f ?_ ?_); (show _ = false; rfl)) | (with_reducible refine go_ne ?_) | (with_reducible refine go_eq ?_) | (with_reducible refine go_fad ?_) | (with_reducible refine go_nil ?_))
    rw [w, e2]
    cases pv e.x0 e.y0 e.x1 e.y1 e.xs.length with
    | false => simp only [cond_false, List.append_nil]; rfl
    | true => simp only [List.append_assoc, cond_true, Bool.true_and]; rfl
theorem bounded_loop (k : Nat) (most : Int) {b : Nat} {q : Option Addr} {xs : List Int} (x0 y0 x1 y1 : Int) (c : Nat) (hl : xs.length ≤ 400) {H : Heap} (hS : Shows H q (ints xs)) (m4 : hcell H b (0 + 4) = some (.slice q xs.length c)) : ∀ (m n i : Nat), m < n → xs.length = i + m → ∀ (R : Type) (KE : Unit → Option R) (KR : Bool → Option R), R02_Bounded_l0 k KE KR n most (some ⟨b, 0, none⟩) (i : Int) H = bif okp most (xs.drop i) then KE () else KR false := by
  intro m
  induction m with
  | zero =>
    intro n i hn hi R KE KR
    obtain ⟨n, rfl⟩ : ∃ n', n = n' + 1 := ⟨n - 1, by omega⟩
    have ed : decide ((i : Int) < ((xs.length : Nat) : Int)) = false := decide_eq_false (by omega)
    rw [List.drop_of_length_le (by omega)]
    unfold R02_Bounded_l0 R02_Bounded_l0_b
    repeat (first | (with_reducible refine (e0 _ _).trans ?_) | ((with_reducible refine go_ip (x := ?_) ?_ ?_); rotate_left 1; (first | ((with_reducible refine (hcell_new _ _ _).trans ?_); rfl) | exact m4 | rfl)) | ((with_reducible refine go_bp (x := ?_) ?_ ?_); rotate_left 1; (first | ((with_reducible refine (hcell_new _ _ _).trans ?_); rfl) | exact m4 | rfl)) | ((with_reducible refine go_lp (x := ?_) (l := ?_) (c := ?_) ?_ ?_); rotate_left 3; (first | ((with_reducible refine (hcell_new _ _ _).trans ?_); rfl) | exact m4 | rfl)) | ((with_reducible refine go_pp (x := ?_) ?_ ?_); rotate_left 1; (first | ((with_reducible refine (hcell_new _ _ _).trans ?_); rfl) | exact m4 | rfl)) | ((with_reducible refine go_i (x := ?_) ?_ ?_); rotate_left 1; (first | ((with_reducible refine (hcell_new _ _ _).trans ?_); rfl) | exact m4 | rfl)) | ((with_reducible refine go_b (x := ?_) ?_ ?_); rotate_left 1; (first | ((with_reducible refine (hcell_new _ _ _).trans ?_); rfl) | exact m4 | rfl)) | ((with_reducible refine go_l (x := ?_) (l := ?_) (c := ?_) ?_ ?_); rotate_left 3; (first | ((with_reducible refine (hcell_new _ _ _).trans ?_); rfl) | exact m4 | rfl)) | ((with_reducible refine go_p (x := ?_) ?_ ?_); rotate_left 1; (first | ((with_reducible refine (hcell_new _ _ _).trans ?_); rfl) | exact m4 | rfl)) | ((with_reducible refine go_halst rfl ?_ ?_ ?_); rfl; rfl) | (with_reducible refine go_halN rfl ?_) | (with_reducible refine go_t ed ?_) | (with_reducible refine go_f ed ?_) | ((with_reducible refine go_t ?_ ?_); (show _ = true; rfl)) | ((with_reducible refine go_f ?_ ?_); (show _ = false; rfl)) | (with_reducible refine go_ne ?_) | (with_reducible refine go_eq ?_) | (with_reducible refine go_fad ?_) | (with_reducible refine go_nil ?_))
    rfl
  | succ m ih =>
    intro n i hn hi R KE KR
    obtain ⟨n, rfl⟩ : ∃ n', n = n' + 1 := ⟨n - 1, by omega⟩
    have ed : decide ((i : Int) < ((xs.length : Nat) : Int)) = true := decide_eq_true (by omega)
    obtain ⟨p, e1, l1⟩ := int_at hS (i := i) (by omega)
    rw [drop_int hi, show okp most (xs.getD i 0 :: xs.drop (i + 1)) = ((!decide (xs.getD i 0 > most) && !decide (xs.getD i 0 < IntKind.wrap .i64 (0 - most))) && okp most (xs.drop (i + 1))) from rfl]
    have w := wnext (i := i) (l := xs.length) (by omega) (by omega)
    unfold R02_Bounded_l0 R02_Bounded_l0_b R02_Bounded_p1 R02_Bounded_p1_b
    repeat (first | (with_reducible refine (e1 _ _).trans ?_) | (with_reducible refine (l1 _ _).trans ?_) | ((with_reducible refine go_ip (x := ?_) ?_ ?_); rotate_left 1; (first | ((with_reducible refine (hcell_new _ _ _).trans ?_); rfl) | exact m4 | rfl)) | ((with_reducible refine go_bp (x := ?_) ?_ ?_); rotate_left 1; (first | ((with_reducible refine (hcell_new _ _ _).trans ?_); rfl) | exact m4 | rfl)) | ((with_reducible refine go_lp (x := ?_) (l := ?_) (c := ?_) ?_ ?_); rotate_left 3; (first | ((with_reducible refine (hcell_new _ _ _).trans ?_); rfl) | exact m4 | rfl)) | ((with_reducible refine go_pp (x := ?_) ?_ ?_); rotate_left 1; (first | ((with_reducible refine (hcell_new _ _ _).trans ?_); rfl) | exact m4 | rfl)) | ((with_reducible refine go_i (x := ?_) ?_ ?_); rotate_left 1; (first | ((with_reducible refine (hcell_new _ _ _).trans ?_); rfl) | exact m4 | rfl)) | ((with_reducible refine go_b (x := ?_) ?_ ?_); rotate_left 1; (first | ((with_reducible refine (hcell_new _ _ _).trans ?_); rfl) | exact m4 | rfl)) | ((with_reducible refine go_l (x := ?_) (l := ?_) (c := ?_) ?_ ?_); rotate_left 3; (first | ((with_reducible refine (hcell_new _ _ _).trans ?_); rfl) | exact m4 | rfl)) | ((with_reducible refine go_p (x := ?_) ?_ ?_); rotate_left 1; (first | ((with_reducible refine (hcell_new _ _ _).trans ?_); rfl) | exact m4 | rfl)) | ((with_reducible refine go_halst rfl ?_ ?_ ?_); rfl; rfl) | (with_reducible refine go_halN rfl ?_) | (with_reducible refine go_t ed ?_) | (with_reducible refine go_f ed ?_) | ((with_reducible refine go_t ?_ ?_); (show _ = true; rfl)) | ((with_reducible refine go_f ?_ ?_); (show _ = false; rfl)) | (with_reducible refine go_ne ?_) | (with_reducible refine go_eq ?_) | (with_reducible refine go_fad ?_) | (with_reducible refine go_nil ?_))
    cases ha : decide (xs.getD i 0 < IntKind.wrap .i64 (0 - most)) with
    | true => cases decide (xs.getD i 0 > most) <;> rfl
    | false =>
      refine go_f rfl ?_
      repeat (first | (with_reducible refine (e1 _ _).trans ?_) | (with_reducible refine (l1 _ _).trans ?_) | ((with_reducible refine go_ip (x := ?_) ?_ ?_); rotate_left 1; (first | ((with_reducible refine (hcell_new _ _ _).trans ?_); rfl) | exact m4 | rfl)) | ((with_reducible refine go_bp (x := ?_) ?_ ?_); rotate_left 1; (first | ((with_reducible refine (hcell_new _ _ _).trans ?_); rfl) | exact m4 | rfl)) | ((with_reducible refine go_lp (x := ?_) (l := ?_) (c := ?_) ?_ ?_); rotate_left 3; (first | ((with_reducible refine (hcell_new _ _ _).trans ?_); rfl) | exact m4 | rfl)) | ((with_reducible refine go_pp (x := ?_) ?_ ?_); rotate_left 1; (first | ((with_reducible refine (hcell_new _ _ _).trans ?_); rfl) | exact m4 | rfl)) | ((with_reducible refine go_i (x := ?_) ?_ ?_); rotate_left 1; (first | ((with_reducible refine (hcell_new _ _ _).trans ?_); rfl) | exact m4 | rfl)) | ((with_reducible refine go_b (x := ?_) ?_ ?_); rotate_left 1; (first | ((with_reducible refine (hcell_new _ _ _).trans ?_); rfl) | exact m4 | rfl)) | ((with_reducible refine go_l (x := ?_) (l := ?_) (c := ?_) ?_ ?_); rotate_left 3; (first | ((with_reducible refine (hcell_new _ _ _).trans ?_); rfl) | exact m4 | rfl)) | ((with_reducible refine go_p (x := ?_) ?_ ?_); rotate_left 1; (first | ((with_reducible refine (hcell_new _ _ _).trans ?_); rfl) | exact m4 | rfl)) | ((with_reducible refine go_halst rfl ?_ ?_ ?_); rfl; rfl) | (with_reducible refine go_halN rfl ?_) | (with_reducible refine go_t ed ?_) | (with_reducible refine go_f ed ?_) | ((with_reducible refine go_t ?_ ?_); (show _ = true; rfl)) | ((with_reducible refine go_f ?_ ?_); (show _ = false; rfl)) | (with_reducible refine go_ne ?_) | (with_reducible refine go_eq ?_) | (with_reducible refine go_fad ?_) | (with_reducible refine go_nil ?_))
      cases hb : decide (xs.getD i 0 > most) with
      | true => rfl
      | false =>
        refine go_f rfl ?_
        refine Eq.trans ?_ (ih n (i + 1) (by omega) (by omega) R KE KR)
        show R02_Bounded_l0 k KE KR n most (some ⟨b, 0, none⟩) (IntKind.wrap .i64 ((i : Int) + 1)) H = _
        rw [w]
theorem boundedP_eq (k : Nat) (hk : 400 < k) (most : Int) {q : Option Addr} {xs : List Int} (x0 y0 x1 y1 : Int) (c : Nat) (hl : xs.length ≤ 400) {H : Heap} (hS : Shows H q (ints xs)) : ∃ J, ∀ (R : Type) (K : Bool → Heap → Option R), R02_Bounded k x0 y0 x1 y1 q xs.length c most H K = K (okp most xs) (H ++ J) := by
  have e := bounded_loop (b := H.length) k most x0 y0 x1 y1 c hl (hS.keep (Old.app H [some ⟨[.int .i64 x0, .int .i64 y0, .int .i64 x1, .int .i64 y1, .slice q xs.length c], false, 0⟩])) (hcell_new _ _ _) xs.length k 0 (by omega) (by omega)
  simp only [Int.natCast_zero, List.drop_zero] at e
  refine ⟨[some ⟨[.int .i64 x0, .int .i64 y0, .int .i64 x1, .int .i64 y1, .slice q xs.length c], false, 0⟩], fun R K => ?_⟩
  unfold R02_Bounded R02_Bounded_b
  refine go_hal ?_
  refine (e _ _ _).trans ?_
  cases okp most xs <;> rfl
theorem errors_l2 (k : Nat) (hk : 400 < k) (most : Int) {q : Option Addr} {es a : List Pr} (c : Nat) (ha : a.length = 3) (hae : ∀ (i : Nat) (e : Pr), a[i]? = some e → es[i]? = some e) (hx : ∀ e ∈ a, e.xs.length ≤ 400) : ∀ (m n i : Nat), m < n → a.length = i + m → ∀ (H : Heap), Pls H q es → ∃ J, ∀ (R : Type) (KE : Heap → Option R) (KR : Int → Heap → Option R), R07_errors_l2 k KE KR n q es.length c most (i : Int) H = bif (a.drop i).all (fun e => okp most e.xs) then KE (H ++ J) else KR 2 (H ++ J) := by
  intro m
  induction m with
  | zero =>
    intro n i hn hi H hP
    obtain ⟨n, rfl⟩ : ∃ n', n = n' + 1 := ⟨n - 1, by omega⟩
    refine ⟨[], fun R KE KR => ?_⟩
    have ed : decide ((i : Int) < 3) = false := decide_eq_false (by omega)
    rw [List.drop_of_length_le (by omega), List.append_nil]
    simp only [R07_errors_l2, R07_errors_l2_b, ed, cond_false]
    rfl
  | succ m ih =>
    intro n i hn hi H hP
    obtain ⟨n, rfl⟩ : ∃ n', n = n' + 1 := ⟨n - 1, by omega⟩
    have ed : decide ((i : Int) < 3) = true := decide_eq_true (by omega)
    obtain ⟨e, he, hd⟩ := get_of hi
    obtain ⟨b, o, e0, m0, m1, m2, m3, m4, hS⟩ := hP.at (hae i e he)
    obtain ⟨J1, e1⟩ := boundedP_eq k hk most e.x0 e.y0 e.x1 e.y1 e.c (hx e (List.mem_of_getElem? he)) hS
    obtain ⟨J2, e2⟩ := ih n (i + 1) (by omega) (by omega) (H ++ J1) hP.app
    have w := wnext (i := i) (l := 3) (by omega) (by omega)
    rw [hd, List.all_cons]
    refine ⟨J1 ++ bif okp most e.xs then J2 else [], fun R KE KR => ?_⟩
    unfold R07_errors_l2 R07_errors_l2_b
    repeat (first | (with_reducible refine (e0 _ _).trans ?_) | (with_reducible refine (e1 _ _).trans ?_) | ((with_reducible refine go_ip (x := ?_) ?_ ?_); rotate_left 1; (first | ((with_reducible refine (hcell_new _ _ _).trans ?_); rfl) | exact m0 | exact m1 | exact m2 | exact m3 | exact m4 | rfl)) | ((with_reducible refine go_bp (x := ?_) ?_ ?_); rotate_left 1; (first | ((with_reducible refine (hcell_new _ _ _).trans ?_); rfl) | exact m0 | exact m1 | exact m2 | exact m3 | exact m4 | rfl)) | ((with_reducible refine go_lp (x := ?_) (l := ?_) (c := ?_) ?_ ?_); rotate_left 3; (first | ((with_reducible refine (hcell_new _ _ _).trans ?_); rfl) | exact m0 | exact m1 | exact m2 | exact m3 | exact m4 | rfl)) | ((with_reducible refine go_pp (x := ?_) ?_ ?_); rotate_left 1; (first | ((with_reducible refine (hcell_new _ _ _).trans ?_); rfl) | exact m0 | exact m1 | exact m2 | exact m3 | exact m4 | rfl)) | ((with_reducible refine go_i (x := ?_) ?_ ?_); rotate_left 1; (first | ((with_reducible refine (hcell_new _ _ _).trans ?_); rfl) | exact m0 | exact m1 | exact m2 | exact m3 | exact m4 | rfl)) | ((with_reducible refine go_b (x := ?_) ?_ ?_); rotate_left 1; (first | ((with_reducible refine (hcell_new _ _ _).trans ?_); rfl) | exact m0 | exact m1 | exact m2 | exact m3 | exact m4 | rfl)) | ((with_reducible refine go_l (x := ?_) (l := ?_) (c := ?_) ?_ ?_); rotate_left 3; (first | ((with_reducible refine (hcell_new _ _ _).trans ?_); rfl) | exact m0 | exact m1 | exact m2 | exact m3 | exact m4 | rfl)) | ((with_reducible refine go_p (x := ?_) ?_ ?_); rotate_left 1; (first | ((with_reducible refine (hcell_new _ _ _).trans ?_); rfl) | exact m0 | exact m1 | exact m2 | exact m3 | exact m4 | rfl)) | ((with_reducible refine go_halst rfl ?_ ?_ ?_); rfl; rfl) | (with_reducible refine go_halN rfl ?_) | (with_reducible refine go_t ed ?_) | (with_reducible refine go_f ed ?_) | ((with_reducible refine go_t ?_ ?_); (show _ = true; rfl)) | ((with_reducible refine go_f ?_ ?_); (show _ = false; rfl)) | (with_reducible refine go_ne ?_) | (with_reducible refine go_eq ?_) | (with_reducible refine go_fad ?_) | (with_reducible refine go_nil ?_))
    rw [w, e2]
    cases okp most e.xs with
    | false => simp only [cond_false, List.append_nil]; rfl
    | true => simp only [List.append_assoc, cond_true, Bool.true_and]; rfl
theorem errors_eq {k : Nat} (hk : 500 < k) (t most : Int) {H : Heap} {q : Option Addr} {es : List Pr} (c : Nat) (hkl : es.length < k) (hl : es.length ≤ 9223372036854775807) (hP : Pls H q es) (hx : ∀ e ∈ es, e.xs.length ≤ 400) : ∃ J, ∀ (R : Type) (K : Int → Heap → Option R), R07_errors k t q es.length c most H K = K (errv t es most) (H ++ J) := by
  unfold R07_errors R07_errors_b errv
  cases h1 : kn t with
  | false =>
    refine ⟨[], fun R K => ?_⟩
    rw [knownR_eq, h1, List.append_nil]
    rfl
  | true =>
    have h1' : (!kn t) = false := by rw [h1]; rfl
    obtain ⟨J1, e1⟩ := errors_l0 k t most c hl es.length k 0 hkl (by omega) H hP
    simp only [Int.natCast_zero, List.drop_zero] at e1
    cases h2 : es.all pvE with
    | false =>
      refine ⟨J1, fun R K => ?_⟩
      rw [h2] at e1
      rw [knownR_eq]
      refine go_f h1' ?_
      exact e1 _ _ _
    | true =>
      rw [h2] at e1
      simp only [cond_true] at e1
      cases h3 : t == 0 with
      | true =>
        refine ⟨J1, fun R K => ?_⟩
        rw [knownR_eq]
        refine go_f h1' ?_
        refine (e1 _ _ _).trans ?_
        exact go_t h3 rfl
      | false =>
        by_cases h4 : es.length < 3
        · refine ⟨J1, fun R K => ?_⟩
          rw [knownR_eq]
          refine go_f h1' ?_
          refine (e1 _ _ _).trans ?_
          refine go_f h3 ?_
          refine go_t (decide_eq_true (by omega)) ?_
          match es, h4 with
          | [], _ => rfl
          | [_], _ => rfl
          | [_, _], _ => rfl
        · obtain ⟨f0, f1, f2, r, rfl⟩ := three (es := es) (by omega)
          have hP1 : Pls (H ++ J1) q (f0 :: f1 :: f2 :: r) := hP.app
          obtain ⟨b0, o0, a0, m00, m01, m02, m03, m04, _⟩ := hP1.at (i := 0) (e := f0) rfl
          obtain ⟨b1, o1, a1, m10, m11, m12, m13, m14, _⟩ := hP1.at (i := 1) (e := f1) rfl
          obtain ⟨b2, o2, a2, m20, m21, m22, m23, m24, _⟩ := hP1.at (i := 2) (e := f2) rfl
          obtain ⟨J3, e6⟩ := errors_l2 (es := f0 :: f1 :: f2 :: r) (a := [f0, f1, f2]) k (by omega) most c rfl (fun i e h => by match i, h with | 0, h => exact h | 1, h => exact h | 2, h => exact h | (i + 3), h => simp at h) (fun e he => hx e (by simp only [List.mem_cons, List.not_mem_nil, or_false] at he ⊢; rcases he with h | h | h <;> simp [h])) 3 k 0 (by omega) (by simp) (H ++ J1) hP1
          simp only [Int.natCast_zero, List.drop_zero] at e6 a0
          rw [show ((1 : Nat) : Int) = 1 from rfl] at a1
          rw [show ((2 : Nat) : Int) = 2 from rfl] at a2
          have h4' : decide (((((f0 :: f1 :: f2 :: r).length : Nat) : Int)) < 3) = false := decide_eq_false (by omega)
          have hall : ([f0, f1, f2].all fun e => rq e f0) = (rq f0 f1 && rq f0 f2) := by
            rw [rq_comm f0 f1, rq_comm f0 f2]
            simp only [List.all_cons, List.all_nil, Bool.and_true]
            rw [show rq f0 f0 = true from rq_self f0, Bool.true_and]
          simp only [err3]
          rw [hall]
          refine ⟨J1 ++ bif (rq f0 f1 && rq f0 f2) then J3 else [], fun R K => ?_⟩
          rw [knownR_eq]
          refine go_f h1' ?_
          refine (e1 _ _ _).trans ?_
          refine go_f h3 ?_
          refine go_f h4' ?_
          unfold R07_errors_p1 R07_errors_p1_b
          repeat (first | (with_reducible refine (a0 _ _).trans ?_) | (with_reducible refine (a1 _ _).trans ?_) | ((with_reducible refine go_ip (x := ?_) ?_ ?_); rotate_left 1; (first | ((with_reducible refine (hcell_new _ _ _).trans ?_); rfl) | exact m00 | exact m01 | exact m02 | exact m03 | exact m10 | exact m11 | exact m12 | exact m13 | rfl)) | ((with_reducible refine go_bp (x := ?_) ?_ ?_); rotate_left 1; (first | ((with_reducible refine (hcell_new _ _ _).trans ?_); rfl) | exact m00 | exact m01 | exact m02 | exact m03 | exact m10 | exact m11 | exact m12 | exact m13 | rfl)) | ((with_reducible refine go_lp (x := ?_) (l := ?_) (c := ?_) ?_ ?_); rotate_left 3; (first | ((with_reducible refine (hcell_new _ _ _).trans ?_); rfl) | exact m00 | exact m01 | exact m02 | exact m03 | exact m10 | exact m11 | exact m12 | exact m13 | rfl)) | ((with_reducible refine go_pp (x := ?_) ?_ ?_); rotate_left 1; (first | ((with_reducible refine (hcell_new _ _ _).trans ?_); rfl) | exact m00 | exact m01 | exact m02 | exact m03 | exact m10 | exact m11 | exact m12 | exact m13 | rfl)) | ((with_reducible refine go_i (x := ?_) ?_ ?_); rotate_left 1; (first | ((with_reducible refine (hcell_new _ _ _).trans ?_); rfl) | exact m00 | exact m01 | exact m02 | exact m03 | exact m10 | exact m11 | exact m12 | exact m13 | rfl)) | ((with_reducible refine go_b (x := ?_) ?_ ?_); rotate_left 1; (first | ((with_reducible refine (hcell_new _ _ _).trans ?_); rfl) | exact m00 | exact m01 | exact m02 | exact m03 | exact m10 | exact m11 | exact m12 | exact m13 | rfl)) | ((with_reducible refine go_l (x := ?_) (l := ?_) (c := ?_) ?_ ?_); rotate_left 3; (first | ((with_reducible refine (hcell_new _ _ _).trans ?_); rfl) | exact m00 | exact m01 | exact m02 | exact m03 | exact m10 | exact m11 | exact m12 | exact m13 | rfl)) | ((with_reducible refine go_p (x := ?_) ?_ ?_); rotate_left 1; (first | ((with_reducible refine (hcell_new _ _ _).trans ?_); rfl) | exact m00 | exact m01 | exact m02 | exact m03 | exact m10 | exact m11 | exact m12 | exact m13 | rfl)) | ((with_reducible refine go_halst rfl ?_ ?_ ?_); rfl; rfl) | (with_reducible refine go_halN rfl ?_) | ((with_reducible refine go_t ?_ ?_); (show _ = true; rfl)) | ((with_reducible refine go_f ?_ ?_); (show _ = false; rfl)) | (with_reducible refine go_ne ?_) | (with_reducible refine go_eq ?_) | (with_reducible refine go_fad ?_) | (with_reducible refine go_nil ?_))
          cases r1 : rq f0 f1 with
          | false =>
            have r1' : (!(rq f0 f1)) = true := by rw [r1]; rfl
            refine go_t r1' ?_
            simp only [Bool.false_and, cond_false, List.append_nil]; rfl
          | true =>
            have r1' : (!(rq f0 f1)) = false := by rw [r1]; rfl
            refine go_f r1' ?_
            repeat (first | (with_reducible refine (a0 _ _).trans ?_) | (with_reducible refine (a2 _ _).trans ?_) | ((with_reducible refine go_ip (x := ?_) ?_ ?_); rotate_left 1; (first | ((with_reducible refine (hcell_new _ _ _).trans ?_); rfl) | exact m00 | exact m01 | exact m02 | exact m03 | exact m20 | exact m21 | exact m22 | exact m23 | rfl)) | ((with_reducible refine go_bp (x := ?_) ?_ ?_); rotate_left 1; (first | ((with_reducible refine (hcell_new _ _ _).trans ?_); rfl) | exact m00 | exact m01 | exact m02 | exact m03 | exact m20 | exact m21 | exact m22 | exact m23 | rfl)) | ((with_reducible refine go_lp (x := ?_) (l := ?_) (c := ?_) ?_ ?_); rotate_left 3; (first | ((with_reducible refine (hcell_new _ _ _).trans ?_); rfl) | exact m00 | exact m01 | exact m02 | exact m03 | exact m20 | exact m21 | exact m22 | exact m23 | rfl)) | ((with_reducible refine go_pp (x := ?_) ?_ ?_); rotate_left 1; (first | ((with_reducible refine (hcell_new _ _ _).trans ?_); rfl) | exact m00 | exact m01 | exact m02 | exact m03 | exact m20 | exact m21 | exact m22 | exact m23 | rfl)) | ((with_reducible refine go_i (x := ?_) ?_ ?_); rotate_left 1; (first | ((with_reducible refine (hcell_new _ _ _).trans ?_); rfl) | exact m00 | exact m01 | exact m02 | exact m03 | exact m20 | exact m21 | exact m22 | exact m23 | rfl)) | ((with_reducible refine go_b (x := ?_) ?_ ?_); rotate_left 1; (first | ((with_reducible refine (hcell_new _ _ _).trans ?_); rfl) | exact m00 | exact m01 | exact m02 | exact m03 | exact m20 | exact m21 | exact m22 | exact m23 | rfl)) | ((with_reducible refine go_l (x := ?_) (l := ?_) (c := ?_) ?_ ?_); rotate_left 3; (first | ((with_reducible refine (hcell_new _ _ _).trans ?_); rfl) | exact m00 | exact m01 | exact m02 | exact m03 | exact m20 | exact m21 | exact m22 | exact m23 | rfl)) | ((with_reducible refine go_p (x := ?_) ?_ ?_); rotate_left 1; (first | ((with_reducible refine (hcell_new _ _ _).trans ?_); rfl) | exact m00 | exact m01 | exact m02 | exact m03 | exact m20 | exact m21 | exact m22 | exact m23 | rfl)) | ((with_reducible refine go_halst rfl ?_ ?_ ?_); rfl; rfl) | (with_reducible refine go_halN rfl ?_) | ((with_reducible refine go_t ?_ ?_); (show _ = true; rfl)) | ((with_reducible refine go_f ?_ ?_); (show _ = false; rfl)) | (with_reducible refine go_ne ?_) | (with_reducible refine go_eq ?_) | (with_reducible refine go_fad ?_) | (with_reducible refine go_nil ?_))
            cases r2 : rq f0 f2 with
            | false =>
              have r2' : (!(rq f0 f2)) = true := by rw [r2]; rfl
              refine go_t r2' ?_
              simp only [Bool.and_false, cond_false, List.append_nil]; rfl
            | true =>
              have r2' : (!(rq f0 f2)) = false := by rw [r2]; rfl
              refine go_f r2' ?_
              refine (e6 _ _ _).trans ?_
              simp only [Bool.and_self, cond_true, List.append_assoc]
              cases [f0, f1, f2].all (fun e => okp most e.xs) <;> rfl
end Go.Proofs.Ytoeoolnkndkefaa.Sh
/- Color: lists of planes that are made. -/
set_option linter.unusedVariables false
set_option linter.unusedSimpArgs false
namespace Go.Proofs.Ytoeoolnkndkefaa.Sh
open Go.Proofs.Ytoeoolnkndkefaa.FW
/-- A list that is being built of planes whose samples are one's own. -/
structure Outs (N : Nat) (H : Heap) (q : Option Addr) (l c : Nat) (es : List Pr) : Prop where
  bld : Bld N 5 H q l c (cellsOf es)
  own : ∀ e ∈ es, ∃ b sz, e.q = some ⟨b, 0, none⟩ ∧ N ≤ b ∧ Owns H b (ints e.xs) sz
  dis : es.Pairwise fun e f => e.q ≠ f.q
  lst : ∀ e ∈ es, e.q ≠ q
theorem Outs.nil (N : Nat) (H : Heap) : Outs N H none 0 0 [] := ⟨Bld.nil _ _ _, (fun e he => by cases he), .nil, (fun e he => by cases he)⟩
theorem Outs.keep {N : Nat} {H H' : Heap} {q : Option Addr} {l c : Nat} {es : List Pr} (h : Outs N H q l c es) (o : Old H.length H H') : Outs N H' q l c es :=
  ⟨h.bld.old o (Nat.le_refl _), fun e he => by obtain ⟨b, sz, h1, h2, h3⟩ := h.own e he; exact ⟨b, sz, h1, h2, h3.old o h3.lt⟩, h.dis, h.lst⟩
theorem Outs.len {N : Nat} {H : Heap} {q : Option Addr} {l c : Nat} {es : List Pr} (h : Outs N H q l c es) : l = es.length := by
  have := h.bld.shows.2
  rw [cellsOf_len] at this; omega
theorem Outs.pls {N : Nat} {H : Heap} {q : Option Addr} {l c : Nat} {es : List Pr} (h : Outs N H q l c es) : Pls H q es :=
  ⟨h.bld.shows.1, fun e he => by obtain ⟨b, sz, h1, h2, h3⟩ := h.own e he; rw [h1]; exact h3.sees.shows⟩
theorem Outs.cap {N : Nat} {H : Heap} {q : Option Addr} {l c : Nat} {es : List Pr} (h : Outs N H q l c es) (hl : es.length ≤ 9223372036854775807) : CapOk q es.length c := by
  have hll := h.len
  rcases h.bld with ⟨rfl, rfl, rfl, h4⟩ | ⟨b, rfl, rfl, _⟩
  · exact .inl ⟨by omega, by omega⟩
  · exact .inr ⟨rfl, hl, rfl⟩
/-- A copy of a row. -/
theorem copy_eq {H : Heap} {q : Option Addr} {xs : List Int} (hS : Shows (H ++ [some (⟨[], false, 0⟩ : Blk)]) q (ints xs)) (hx : xs.length ≤ 400) :
    ∃ b c sz H', (∀ (R : Type) (K : Option Addr → Nat → Nat → Heap → Option R), hapnS 1 8 (H ++ [some ⟨[], false, 0⟩]) (some ⟨H.length, 0, none⟩) 0 0 q xs.length K = K (some ⟨b, 0, none⟩) xs.length c H') ∧ H.length ≤ b ∧ Owns H' b (ints xs) sz ∧ Old H.length H H' := by
  have hc := hS.hcells
  rw [ints_len] at hc
  by_cases h0 : xs.length = 0
  · have : xs = [] := List.length_eq_zero_iff.1 h0
    subst this
    refine ⟨H.length, 0, 0, _, fun R K => ?_, Nat.le_refl _, hblk_new H _, Old.app _ _⟩
    unfold hapnS hapn
    rw [Nat.mul_one, hc]
    simp [unk, ints]
  · refine ⟨H.length + 1, unk, 1, H ++ [some ⟨[], false, 0⟩] ++ [some ⟨ints xs, false, 1⟩], fun R K => ?_, by omega, ?_, ⟨by simp, fun i hi => ?_⟩⟩
    · unfold hapnS hapn
      rw [Nat.mul_one, hc]
      simp only
      rw [if_neg (by unfold unk; omega), if_neg h0, if_neg (by omega), if_pos (by omega)]
      have : FW.hcells (H ++ [some (⟨[], false, 0⟩ : Blk)]) (some ⟨H.length, 0, none⟩) (0 * 1) = some [] := rfl
      rw [this]
      simp
    · have := hblk_new (H ++ [some (⟨[], false, 0⟩ : Blk)]) (some ⟨ints xs, false, 1⟩)
      rw [show (H ++ [some (⟨[], false, 0⟩ : Blk)]).length = H.length + 1 from by simp] at this
      exact this
    · rw [List.append_assoc]; exact app_old hi
theorem app5 {N : Nat} {H : Heap} {q : Option Addr} {l c : Nat} {cs vs : List Value} (h : Bld N 5 H q l c cs) (hN : N ≤ H.length) (hv : vs.length = 5) (hl : l ≤ 6) :
    ∃ H', (∀ (R : Type) (K : Option Addr → Nat → Nat → Heap → Option R), happS 5 56 (H ++ [some ⟨vs, false, 0⟩]) q l c (some ⟨H.length, 0, none⟩) 1 K = K (some ⟨H.length + 1, 0, none⟩) (l + 1) unk H') ∧ Bld N 5 H' (some ⟨H.length + 1, 0, none⟩) (l + 1) unk (cs ++ vs) ∧ H'.length = H.length + 2 ∧ ∀ i, i < H.length → (∀ a, q = some a → a.block ≠ i) → hblk H' i = hblk H i := by
  have hp : Shows (H ++ [some (⟨vs, false, 0⟩ : Blk)]) (some ⟨H.length, 0, none⟩) vs := Sees.shows ⟨_, hblk_new H _, rfl⟩
  have hc := hp.hcells
  rw [hv] at hc
  have hL : (H ++ [some (⟨vs, false, 0⟩ : Blk)]).length = H.length + 1 := by simp
  rcases h with ⟨rfl, rfl, rfl, rfl⟩ | ⟨b, rfl, rfl, h3, h4, h5⟩
  · refine ⟨H ++ [some ⟨vs, false, 0⟩] ++ [some ⟨vs, false, 5⟩], fun R K => ?_, .inr ⟨H.length + 1, rfl, rfl, by omega, ?_, by simp [hv]⟩, by simp, fun i hi _ => by rw [List.append_assoc]; exact app_old hi⟩
    · unfold happS happ
      rw [show 1 * 5 = 5 from rfl, hc]
      simp only
      rw [if_neg (by unfold unk; omega), if_neg (by omega), if_pos (by omega), hL]
      rfl
    · have := hblk_new (H ++ [some (⟨vs, false, 0⟩ : Blk)]) (some ⟨vs, false, 5⟩)
      rw [hL] at this
      exact this
  · have hblt := h4.sees.lt
    have h4' : hblk (H ++ [some (⟨vs, false, 0⟩ : Blk)]) b = some ⟨cs, false, 5⟩ := by rw [app_old hblt]; exact h4
    refine ⟨hset (H ++ [some ⟨vs, false, 0⟩]) b none ++ [some ⟨cs ++ vs, false, 5⟩], fun R K => ?_, .inr ⟨H.length + 1, rfl, rfl, by omega, ?_, by rw [Nat.add_mul, h5, List.length_append, hv]⟩, by simp [hset_length], fun i hi hne => ?_⟩
    · unfold happS happ
      rw [show 1 * 5 = 5 from rfl, hc]
      simp only [if_true, h4', cond_false, h5, true_and, hL]
      rw [if_pos (by omega)]
    · have := app_new (hset (H ++ [some (⟨vs, false, 0⟩ : Blk)]) b none) (some ⟨cs ++ vs, false, 5⟩) []
      rwa [hset_length, hL] at this
    · rw [app_old (by rw [hset_length]; omega), hset_get, if_neg (by have := hne _ rfl; simp only at this; omega), app_old hi]
/-- One more plane. -/
theorem Outs.add {N : Nat} {H : Heap} {q : Option Addr} {l c : Nat} {es : List Pr} (h : Outs N H q l c es) (hN : N ≤ H.length) (hl : l ≤ 6) (x0 y0 x1 y1 : Int) (xs : List Int) (cd : Nat) {b sz : Nat} (hb : Owns H b (ints xs) sz) (hbN : N ≤ b) (hq : some ⟨b, 0, none⟩ ≠ q) (hes : ∀ e ∈ es, e.q ≠ some ⟨b, 0, none⟩) :
    ∃ q' H', (∀ (R : Type) (K : Option Addr → Nat → Nat → Heap → Option R), happS 5 56 (H ++ [some ⟨[.int .i64 x0, .int .i64 y0, .int .i64 x1, .int .i64 y1, .slice (some ⟨b, 0, none⟩) xs.length cd], false, 0⟩]) q l c (some ⟨H.length, 0, none⟩) 1 K = K q' (l + 1) unk H') ∧ Outs N H' q' (l + 1) unk (es ++ [⟨x0, y0, x1, y1, xs, some ⟨b, 0, none⟩, cd⟩]) ∧ Old N H H' ∧ N ≤ H'.length := by
  obtain ⟨H', e, B, n, s⟩ := app5 h.bld hN (vs := [.int .i64 x0, .int .i64 y0, .int .i64 x1, .int .i64 y1, .slice (some ⟨b, 0, none⟩) xs.length cd]) rfl hl
  have hlow : ∀ i, i < N → hblk H' i = hblk H i := fun i hi => s i (by omega) fun a ha => by
    rcases h.bld with ⟨rfl, _⟩ | ⟨b2, rfl, _, h2, _⟩
    · cases ha
    · cases ha; simp only; omega
  have hkeep : ∀ b2 cs sz2, Owns H b2 cs sz2 → some ⟨b2, 0, none⟩ ≠ q → Owns H' b2 cs sz2 := fun b2 cs sz2 ho hne => by
    have := ho.lt
    unfold Owns at *
    rw [s b2 this fun a ha => by
      rcases h.bld with ⟨rfl, _⟩ | ⟨b3, rfl, _⟩
      · cases ha
      · cases ha; intro hh; simp only at hh; subst hh; exact hne rfl]
    exact ho
  refine ⟨_, H', e, ⟨?_, fun f hf => ?_, ?_, fun f hf => ?_⟩, ⟨by omega, hlow⟩, by omega⟩
  · rw [cellsOf_append]; exact B
  · rcases List.mem_append.1 hf with hf | hf
    · obtain ⟨b2, sz2, h1, h2, h3⟩ := h.own f hf
      exact ⟨b2, sz2, h1, h2, hkeep b2 _ _ h3 (by rw [← h1]; exact h.lst f hf)⟩
    · simp only [List.mem_singleton] at hf; subst hf
      exact ⟨b, sz, rfl, hbN, hkeep b _ _ hb hq⟩
  · rw [List.pairwise_append]
    refine ⟨h.dis, List.pairwise_singleton _ _, fun f hf g hg => ?_⟩
    simp only [List.mem_singleton] at hg; subst hg
    exact hes f hf
  · rcases List.mem_append.1 hf with hf | hf
    · obtain ⟨b2, sz2, h1, h2, h3⟩ := h.own f hf
      rw [h1]; intro hh; cases hh; have := h3.lt; omega
    · simp only [List.mem_singleton] at hf; subst hf
      intro hh; cases hh; have := hb.lt; omega
/-- A copy of a plane behind such a list. -/
theorem Outs.copy {N : Nat} {H : Heap} {q : Option Addr} {l c : Nat} {es : List Pr} (h : Outs N H q l c es) (hN : N ≤ H.length) (hl : l ≤ 6) (e : Pr) (hS : Shows (H ++ [some (⟨[], false, 0⟩ : Blk)]) e.q (ints e.xs)) (hx : e.xs.length ≤ 400) :
    ∃ q1 c1 H1 q' H' f, (∀ (R : Type) (K : Option Addr → Nat → Nat → Heap → Option R), hapnS 1 8 (H ++ [some ⟨[], false, 0⟩]) (some ⟨H.length, 0, none⟩) 0 0 e.q e.xs.length K = K q1 e.xs.length c1 H1) ∧ (∀ (R : Type) (K : Option Addr → Nat → Nat → Heap → Option R), happS 5 56 (H1 ++ [some ⟨[.int .i64 e.x0, .int .i64 e.y0, .int .i64 e.x1, .int .i64 e.y1, .slice q1 e.xs.length c1], false, 0⟩]) q l c (some ⟨H1.length, 0, none⟩) 1 K = K q' (l + 1) unk H') ∧
      Outs N H' q' (l + 1) unk (es ++ [f]) ∧ f.pl = e.pl ∧ Old N H H' ∧ N ≤ H'.length := by
  obtain ⟨b, c1, sz, H1, e1, g1, g2, o1⟩ := copy_eq hS hx
  have h1 := h.keep o1
  obtain ⟨q', H', e2, O2, o2, n2⟩ := h1.add (Nat.le_trans hN o1.1) hl e.x0 e.y0 e.x1 e.y1 e.xs c1 g2 (by omega) (by
    rcases h.bld with ⟨rfl, _⟩ | ⟨b3, rfl, _, _, h4, _⟩
    · intro hh; cases hh
    · intro hh; cases hh; have := h4.lt; omega) (fun f hf => by
    obtain ⟨b2, sz2, k1, k2, k3⟩ := h.own f hf
    rw [k1]; intro hh; cases hh; have := k3.lt; omega)
  exact ⟨_, c1, H1, q', H', _, e1, e2, O2, rfl, (o1.mono hN).trans o2, n2⟩
end Go.Proofs.Ytoeoolnkndkefaa.Sh
/- Color: the first three planes of a list, changed sample by sample. -/
set_option linter.unusedVariables false
set_option linter.unusedSimpArgs false
namespace Go.Proofs.Ytoeoolnkndkefaa.Sh
open Go.Proofs.Ytoeoolnkndkefaa.FW
abbrev PL := Int × Int × Int × Int × List Int
abbrev pr0 (p : Int × Int × Int) : Int := p.1
abbrev pr1 (p : Int × Int × Int) : Int := p.2.1
abbrev pr2 (p : Int × Int × Int) : Int := p.2.2
def mx (f : Int → Int → Int → Int × Int × Int) (X Y Z : List Int) (pr : Int × Int × Int → Int) (i t : Nat) : Value := .int .i64 (if t < i then pr (f (X.getD t 0) (Y.getD t 0) (Z.getD t 0)) else pr (X.getD t 0, Y.getD t 0, Z.getD t 0))
theorem mx_at (f : Int → Int → Int → Int × Int × Int) (X Y Z : List Int) (pr : Int × Int × Int → Int) (i : Nat) : mx f X Y Z pr i i = .int .i64 (pr (X.getD i 0, Y.getD i 0, Z.getD i 0)) := by unfold mx; rw [if_neg (by omega)]
theorem mx_next (f : Int → Int → Int → Int × Int × Int) (X Y Z : List Int) (pr : Int × Int × Int → Int) (i : Nat) (j : Nat) : (if j = i then Value.int .i64 (pr (f (X.getD i 0) (Y.getD i 0) (Z.getD i 0))) else mx f X Y Z pr i j) = mx f X Y Z pr (i + 1) j := by
  unfold mx
  by_cases c : j = i
  · subst c; rw [if_pos rfl, if_pos (by omega)]
  · rw [if_neg c]
    by_cases c2 : j < i
    · rw [if_pos c2, if_pos (by omega)]
    · rw [if_neg c2, if_neg (by omega)]
def tr3 (f : Int → Int → Int → Int × Int × Int) (X Y Z : List Int) (pr : Int × Int × Int → Int) : List Int := (List.range X.length).map fun t => pr (f (X.getD t 0) (Y.getD t 0) (Z.getD t 0))
theorem tr3_len (f : Int → Int → Int → Int × Int × Int) (X Y Z : List Int) (pr : Int × Int × Int → Int) : (tr3 f X Y Z pr).length = X.length := by simp [tr3]
theorem mx_all (f : Int → Int → Int → Int × Int × Int) (X Y Z : List Int) (pr : Int × Int × Int → Int) : vcells X.length (mx f X Y Z pr X.length) = ints (tr3 f X Y Z pr) := by
  unfold vcells ints tr3
  rw [List.map_map]
  refine List.map_congr_left fun i hi => ?_
  rw [List.mem_range] at hi
  simp [mx, hi]
theorem mx_none (f : Int → Int → Int → Int × Int × Int) (X Y Z W : List Int) (pr : Int × Int × Int → Int) (h : ∀ t, pr (X.getD t 0, Y.getD t 0, Z.getD t 0) = W.getD t 0) : vcells W.length (mx f X Y Z pr 0) = ints W := by
  apply List.ext_getElem?
  intro i
  by_cases hi : i < W.length
  · rw [vcells_get _ _ hi]
    have hh := h i
    unfold mx
    rw [if_neg (by omega), hh]
    simp only [ints, List.getElem?_map, List.getElem?_eq_getElem hi, Option.map_some, List.getD_eq_getElem?_getD, Option.getD_some]
  · rw [List.getElem?_eq_none (by rw [vcells_len]; omega), List.getElem?_eq_none (by rw [ints_len]; omega)]
def trq (f : Int → Int → Int → Int × Int × Int) : List PL → List PL
  | (a0, a1, a2, a3, X) :: (b0, b1, b2, b3, Y) :: (c0, c1, c2, c3, Z) :: r => (a0, a1, a2, a3, tr3 f X Y Z pr0) :: (b0, b1, b2, b3, tr3 f X Y Z pr1) :: (c0, c1, c2, c3, tr3 f X Y Z pr2) :: r
  | l => l
def trp (f : Int → Int → Int → Int × Int × Int) (t : Int) (l : List PL) : List PL := bif t == 0 then l else trq f l
/-- Three rows within a list of planes. -/
structure Tri3 (H : Heap) (bl : Nat) (l : List Value) (n b0 b1 b2 c0 c1 c2 s0 s1 s2 : Nat) (g0 g1 g2 : Nat → Value) : Prop where
  ls : Owns H bl l 5
  l0 : hcell H bl (0 + 4) = some (.slice (some ⟨b0, 0, none⟩) n c0)
  l1 : hcell H bl (5 + 4) = some (.slice (some ⟨b1, 0, none⟩) n c1)
  l2 : hcell H bl (10 + 4) = some (.slice (some ⟨b2, 0, none⟩) n c2)
  o0 : Owns H b0 (vcells n g0) s0
  o1 : Owns H b1 (vcells n g1) s1
  o2 : Owns H b2 (vcells n g2) s2
  d01 : b0 ≠ b1
  d02 : b0 ≠ b2
  d12 : b1 ≠ b2
  e0 : bl ≠ b0
  e1 : bl ≠ b1
  e2 : bl ≠ b2
def But3 (b0 b1 b2 : Nat) (H H' : Heap) : Prop := H.length ≤ H'.length ∧ ∀ i, i < H.length → i ≠ b0 → i ≠ b1 → i ≠ b2 → hblk H' i = hblk H i
theorem But3.refl (b0 b1 b2 : Nat) (H : Heap) : But3 b0 b1 b2 H H := ⟨Nat.le_refl _, fun _ _ _ _ _ => rfl⟩
theorem But3.trans {b0 b1 b2 : Nat} {H1 H2 H3 : Heap} (x : But3 b0 b1 b2 H1 H2) (y : But3 b0 b1 b2 H2 H3) : But3 b0 b1 b2 H1 H3 := ⟨Nat.le_trans x.1 y.1, fun i hi h0 h1 h2 => (y.2 i (Nat.lt_of_lt_of_le hi x.1) h0 h1 h2).trans (x.2 i hi h0 h1 h2)⟩
theorem But3.app (b0 b1 b2 : Nat) (H J : Heap) : But3 b0 b1 b2 H (H ++ J) := ⟨by simp, fun i hi _ _ _ => app_old hi⟩
theorem But3.old {b0 b1 b2 N : Nat} {H H' : Heap} (x : But3 b0 b1 b2 H H') (h : N ≤ b0 ∧ N ≤ b1 ∧ N ≤ b2) (hN : N ≤ H.length) : Old N H H' := ⟨x.1, fun i hi => x.2 i (by omega) (by omega) (by omega) (by omega)⟩
section
variable {H : Heap} {bl : Nat} {l : List Value} {n b0 b1 b2 c0 c1 c2 s0 s1 s2 : Nat} {g0 g1 g2 : Nat → Value}
theorem hcell_eq {H H' : Heap} {b : Nat} (h : hblk H' b = hblk H b) (o : Nat) : hcell H' b o = hcell H b o := by unfold hcell; rw [h]
theorem Tri3.app {J : Heap} (h : Tri3 H bl l n b0 b1 b2 c0 c1 c2 s0 s1 s2 g0 g1 g2) : Tri3 (H ++ J) bl l n b0 b1 b2 c0 c1 c2 s0 s1 s2 g0 g1 g2 :=
  ⟨h.ls.old (Old.app _ _) h.ls.lt, by rw [hcell_old h.ls.lt]; exact h.l0, by rw [hcell_old h.ls.lt]; exact h.l1, by rw [hcell_old h.ls.lt]; exact h.l2, h.o0.old (Old.app _ _) h.o0.lt, h.o1.old (Old.app _ _) h.o1.lt, h.o2.old (Old.app _ _) h.o2.lt, h.d01, h.d02, h.d12, h.e0, h.e1, h.e2⟩
theorem Tri3.congr {f0 f1 f2 : Nat → Value} (h : Tri3 H bl l n b0 b1 b2 c0 c1 c2 s0 s1 s2 g0 g1 g2) (h0 : ∀ j, g0 j = f0 j) (h1 : ∀ j, g1 j = f1 j) (h2 : ∀ j, g2 j = f2 j) : Tri3 H bl l n b0 b1 b2 c0 c1 c2 s0 s1 s2 f0 f1 f2 := by
  rw [show f0 = g0 from funext fun j => (h0 j).symm, show f1 = g1 from funext fun j => (h1 j).symm, show f2 = g2 from funext fun j => (h2 j).symm]; exact h
theorem Tri3.put0 (h : Tri3 H bl l n b0 b1 b2 c0 c1 c2 s0 s1 s2 g0 g1 g2) {i : Nat} (hi : i < n) (v : Value) : ∃ H', (∀ (R : Type) (K : Heap → Option R), hst1 H (some ⟨b0, i, none⟩) v K = K H') ∧ Tri3 H' bl l n b0 b1 b2 c0 c1 c2 s0 s1 s2 (fun j => if j = i then v else g0 j) g1 g2 ∧ But3 b0 b1 b2 H H' := by
  obtain ⟨H', e, O, n', s⟩ := hst1_own (o := i) h.o0 (by rw [vcells_len]; exact hi) v
  rw [vcells_set n g0 hi] at O
  refine ⟨H', e, ⟨?_, by rw [hcell_eq (s _ h.e0)]; exact h.l0, by rw [hcell_eq (s _ h.e0)]; exact h.l1, by rw [hcell_eq (s _ h.e0)]; exact h.l2, O, ?_, ?_, h.d01, h.d02, h.d12, h.e0, h.e1, h.e2⟩, by omega, fun j _ h0 _ _ => s j h0⟩
  · unfold Owns; rw [s _ h.e0]; exact h.ls
  · unfold Owns; rw [s _ h.d01.symm]; exact h.o1
  · unfold Owns; rw [s _ h.d02.symm]; exact h.o2
theorem Tri3.put1 (h : Tri3 H bl l n b0 b1 b2 c0 c1 c2 s0 s1 s2 g0 g1 g2) {i : Nat} (hi : i < n) (v : Value) : ∃ H', (∀ (R : Type) (K : Heap → Option R), hst1 H (some ⟨b1, i, none⟩) v K = K H') ∧ Tri3 H' bl l n b0 b1 b2 c0 c1 c2 s0 s1 s2 g0 (fun j => if j = i then v else g1 j) g2 ∧ But3 b0 b1 b2 H H' := by
  obtain ⟨H', e, O, n', s⟩ := hst1_own (o := i) h.o1 (by rw [vcells_len]; exact hi) v
  rw [vcells_set n g1 hi] at O
  refine ⟨H', e, ⟨?_, by rw [hcell_eq (s _ h.e1)]; exact h.l0, by rw [hcell_eq (s _ h.e1)]; exact h.l1, by rw [hcell_eq (s _ h.e1)]; exact h.l2, ?_, O, ?_, h.d01, h.d02, h.d12, h.e0, h.e1, h.e2⟩, by omega, fun j _ _ h0 _ => s j h0⟩
  · unfold Owns; rw [s _ h.e1]; exact h.ls
  · unfold Owns; rw [s _ h.d01]; exact h.o0
  · unfold Owns; rw [s _ h.d12.symm]; exact h.o2
theorem Tri3.put2 (h : Tri3 H bl l n b0 b1 b2 c0 c1 c2 s0 s1 s2 g0 g1 g2) {i : Nat} (hi : i < n) (v : Value) : ∃ H', (∀ (R : Type) (K : Heap → Option R), hst1 H (some ⟨b2, i, none⟩) v K = K H') ∧ Tri3 H' bl l n b0 b1 b2 c0 c1 c2 s0 s1 s2 g0 g1 (fun j => if j = i then v else g2 j) ∧ But3 b0 b1 b2 H H' := by
  obtain ⟨H', e, O, n', s⟩ := hst1_own (o := i) h.o2 (by rw [vcells_len]; exact hi) v
  rw [vcells_set n g2 hi] at O
  refine ⟨H', e, ⟨?_, by rw [hcell_eq (s _ h.e2)]; exact h.l0, by rw [hcell_eq (s _ h.e2)]; exact h.l1, by rw [hcell_eq (s _ h.e2)]; exact h.l2, ?_, ?_, O, h.d01, h.d02, h.d12, h.e0, h.e1, h.e2⟩, by omega, fun j _ _ _ h0 => s j h0⟩
  · unfold Owns; rw [s _ h.e2]; exact h.ls
  · unfold Owns; rw [s _ h.d02]; exact h.o0
  · unfold Owns; rw [s _ h.d12]; exact h.o1
theorem Tri3.v0 (h : Tri3 H bl l n b0 b1 b2 c0 c1 c2 s0 s1 s2 g0 g1 g2) {i : Nat} (hi : i < n) {v : Value} (e : g0 i = v) : hcell H b0 i = some v := by rw [h.o0.sees.cell, vcells_get _ _ hi, e]
theorem Tri3.v1 (h : Tri3 H bl l n b0 b1 b2 c0 c1 c2 s0 s1 s2 g0 g1 g2) {i : Nat} (hi : i < n) {v : Value} (e : g1 i = v) : hcell H b1 i = some v := by rw [h.o1.sees.cell, vcells_get _ _ hi, e]
theorem Tri3.v2 (h : Tri3 H bl l n b0 b1 b2 c0 c1 c2 s0 s1 s2 g0 g1 g2) {i : Nat} (hi : i < n) {v : Value} (e : g2 i = v) : hcell H b2 i = some v := by rw [h.o2.sees.cell, vcells_get _ _ hi, e]
end
/-- The first three rows of a list that was made, and the list after their change. -/
theorem Outs.tri {N : Nat} {H : Heap} {q : Option Addr} {lo c : Nat} {outs es : List Pr} (f : Int → Int → Int → Int × Int × Int) (h : Outs N H q lo c outs) (hm : outs.map Pr.pl = es.map Pr.pl) (h3 : 3 ≤ es.length) {n : Nat} (hn : ∀ e ∈ es.take 3, e.xs.length = n) :
    ∃ bl c0 c1 c2 s0 s1 s2 b0 b1 b2 X Y Z, q = some ⟨bl, 0, none⟩ ∧ Tri3 H bl (cellsOf outs) n b0 b1 b2 c0 c1 c2 s0 s1 s2 (mx f X Y Z pr0 0) (mx f X Y Z pr1 0) (mx f X Y Z pr2 0) ∧ (N ≤ b0 ∧ N ≤ b1 ∧ N ≤ b2) ∧
      (∀ e0 e1 e2 r, es = e0 :: e1 :: e2 :: r → X = e0.xs ∧ Y = e1.xs ∧ Z = e2.xs) ∧
      ∀ H2, Tri3 H2 bl (cellsOf outs) n b0 b1 b2 c0 c1 c2 s0 s1 s2 (mx f X Y Z pr0 n) (mx f X Y Z pr1 n) (mx f X Y Z pr2 n) → But3 b0 b1 b2 H H2 → ∃ outs2, Outs N H2 q lo c outs2 ∧ outs2.map Pr.pl = trq f (es.map Pr.pl) := by
  have hlen : outs.length = es.length := by have := congrArg List.length hm; simpa using this
  obtain ⟨f0, f1, f2, r, rfl⟩ := three (es := outs) (by omega)
  obtain ⟨g0, g1, g2, r', rfl⟩ := three h3
  simp only [List.map_cons, List.cons.injEq] at hm
  obtain ⟨m0, m1, m2, mr⟩ := hm
  have hx0 : f0.xs = g0.xs := congrArg (fun p : PL => p.2.2.2.2) m0
  have hx1 : f1.xs = g1.xs := congrArg (fun p : PL => p.2.2.2.2) m1
  have hx2 : f2.xs = g2.xs := congrArg (fun p : PL => p.2.2.2.2) m2
  have n0 : f0.xs.length = n := by rw [hx0]; exact hn g0 (by simp)
  have n1 : f1.xs.length = n := by rw [hx1]; exact hn g1 (by simp)
  have n2 : f2.xs.length = n := by rw [hx2]; exact hn g2 (by simp)
  obtain ⟨b0, s0, q0, k0, o0⟩ := h.own f0 (by simp)
  obtain ⟨b1, s1, q1, k1, o1⟩ := h.own f1 (by simp)
  obtain ⟨b2, s2, q2, k2, o2⟩ := h.own f2 (by simp)
  rcases h.bld with ⟨_, _, _, h4⟩ | ⟨bl, hq, hc, hNb, hO, hll⟩
  · simp [cellsOf, Pr.cells, pl5] at h4
  · have hdis := h.dis
    have hlst := h.lst
    rw [List.pairwise_cons, List.pairwise_cons, List.pairwise_cons] at hdis
    obtain ⟨da, db, dc, dd⟩ := hdis
    have d01 : b0 ≠ b1 := fun e => da f1 (by simp) (by rw [q0, q1, e])
    have d02 : b0 ≠ b2 := fun e => da f2 (by simp) (by rw [q0, q2, e])
    have d12 : b1 ≠ b2 := fun e => db f2 (by simp) (by rw [q1, q2, e])
    have e0 : bl ≠ b0 := fun e => hlst f0 (by simp) (by rw [q0, hq, e])
    have e1 : bl ≠ b1 := fun e => hlst f1 (by simp) (by rw [q1, hq, e])
    have e2 : bl ≠ b2 := fun e => hlst f2 (by simp) (by rw [q2, hq, e])
    have cc : cellsOf (f0 :: f1 :: f2 :: r) = f0.cells ++ (f1.cells ++ (f2.cells ++ cellsOf r)) := rfl
    refine ⟨bl, f0.c, f1.c, f2.c, s0, s1, s2, b0, b1, b2, f0.xs, f1.xs, f2.xs, hq, ⟨hO, ?_, ?_, ?_, ?_, ?_, ?_, d01, d02, d12, e0, e1, e2⟩, ⟨k0, k1, k2⟩, fun a b c d e => ?_, fun H2 T B => ?_⟩
    · rw [hO.sees.cell, ← q0, ← n0]; rfl
    · rw [hO.sees.cell, ← q1, ← n1]; rfl
    · rw [hO.sees.cell, ← q2, ← n2]; rfl
    · rw [← n0, mx_none f _ _ _ f0.xs pr0 (fun t => rfl)]; exact o0
    · rw [← n1, mx_none f _ _ _ f1.xs pr1 (fun t => rfl)]; exact o1
    · rw [← n2, mx_none f _ _ _ f2.xs pr2 (fun t => rfl)]; exact o2
    · cases e; exact ⟨hx0, hx1, hx2⟩
    · have w0 : vcells n (mx f f0.xs f1.xs f2.xs pr0 n) = ints (tr3 f f0.xs f1.xs f2.xs pr0) := by rw [← n0]; exact mx_all _ _ _ _ _
      have w1 : vcells n (mx f f0.xs f1.xs f2.xs pr1 n) = ints (tr3 f f0.xs f1.xs f2.xs pr1) := by rw [← n0]; exact mx_all _ _ _ _ _
      have w2 : vcells n (mx f f0.xs f1.xs f2.xs pr2 n) = ints (tr3 f f0.xs f1.xs f2.xs pr2) := by rw [← n0]; exact mx_all _ _ _ _ _
      have t0 := T.o0; have t1 := T.o1; have t2 := T.o2
      rw [w0] at t0; rw [w1] at t1; rw [w2] at t2
      have cells2 : cellsOf ({ f0 with xs := tr3 f f0.xs f1.xs f2.xs pr0 } :: { f1 with xs := tr3 f f0.xs f1.xs f2.xs pr1 } :: { f2 with xs := tr3 f f0.xs f1.xs f2.xs pr2 } :: r) = cellsOf (f0 :: f1 :: f2 :: r) := by
        simp only [cellsOf_cons, Pr.cells, tr3_len, n0, n1, n2]
      refine ⟨{ f0 with xs := tr3 f f0.xs f1.xs f2.xs pr0 } :: { f1 with xs := tr3 f f0.xs f1.xs f2.xs pr1 } :: { f2 with xs := tr3 f f0.xs f1.xs f2.xs pr2 } :: r, ⟨?_, ?_, ?_, ?_⟩, ?_⟩
      · rw [cells2]; exact .inr ⟨bl, hq, hc, hNb, T.ls, hll⟩
      · intro e he
        simp only [List.mem_cons] at he
        rcases he with rfl | rfl | rfl | he
        · exact ⟨b0, s0, q0, k0, t0⟩
        · exact ⟨b1, s1, q1, k1, t1⟩
        · exact ⟨b2, s2, q2, k2, t2⟩
        · obtain ⟨b, s, hqe, hb, ho⟩ := h.own e (by simp [he])
          refine ⟨b, s, hqe, hb, ?_⟩
          unfold Owns
          rw [B.2 b ho.lt (fun hh => da e (by simp [he]) (by rw [q0, hqe, hh])) (fun hh => db e (by simp [he]) (by rw [q1, hqe, hh])) (fun hh => dc e he (by rw [q2, hqe, hh]))]
          exact ho
      · rw [List.pairwise_cons, List.pairwise_cons, List.pairwise_cons]
        refine ⟨fun e he => ?_, fun e he => ?_, fun e he => dc e he, dd⟩
        · simp only [List.mem_cons] at he
          rcases he with rfl | rfl | he
          · exact da f1 (by simp)
          · exact da f2 (by simp)
          · exact da e (by simp [he])
        · simp only [List.mem_cons] at he
          rcases he with rfl | he
          · exact db f2 (by simp)
          · exact db e (by simp [he])
      · intro e he
        simp only [List.mem_cons] at he
        rcases he with rfl | rfl | rfl | he
        · exact hlst f0 (by simp)
        · exact hlst f1 (by simp)
        · exact hlst f2 (by simp)
        · exact hlst e (by simp [he])
      · simp only [List.map_cons, mr]
        obtain ⟨a0, a1, a2, a3, a4, a5, a6⟩ := g0
        obtain ⟨b0', b1', b2', b3, b4, b5, b6⟩ := g1
        obtain ⟨c0, c1, c2, c3, c4, c5, c6⟩ := g2
        obtain ⟨x0, x1, x2, x3, x4, x5, x6⟩ := f0
        obtain ⟨y0, y1, y2, y3, y4, y5, y6⟩ := f1
        obtain ⟨z0, z1, z2, z3, z4, z5, z6⟩ := f2
        simp only [Pr.pl, Prod.mk.injEq] at m0 m1 m2
        obtain ⟨rfl, rfl, rfl, rfl, rfl⟩ := m0
        obtain ⟨rfl, rfl, rfl, rfl, rfl⟩ := m1
        obtain ⟨rfl, rfl, rfl, rfl, rfl⟩ := m2
        rfl
end Go.Proofs.Ytoeoolnkndkefaa.Sh
/- Color: change, with color_forward. -/
set_option linter.unusedVariables false
set_option linter.unusedSimpArgs false
namespace Go.Proofs.Ytoeoolnkndkefaa.Sh
open Go.Proofs.Ytoeoolnkndkefaa.FW
theorem change_v35_l0_eq (k : Nat) (t : Int) {N : Nat} {H0 : Heap} {q : Option Addr} {es : List Pr} (c : Nat) (hN : N = H0.length) (hP : Pls H0 q es) (hl : es.length ≤ 6) (hx : ∀ e ∈ es, e.xs.length ≤ 400) : ∀ (m n i : Nat), m < n → es.length = i + m → ∀ (H : Heap) (q' : Option Addr) (c' : Nat) (outs : List Pr), Old N H0 H → Outs N H q' i c' outs → outs.map Pr.pl = (es.take i).map Pr.pl → ∃ H' q2 c2 outs2, (∀ (R : Type) (KE : Int → Option Addr → Nat → Nat → Heap → Option R), color_change_v35_l0 k KE n t q' i c' q es.length c ((es.length : Nat) : Int) (i : Int) H = KE t q2 es.length c2 H') ∧ Outs N H' q2 es.length c2 outs2 ∧ outs2.map Pr.pl = es.map Pr.pl ∧ Old N H0 H' := by
  intro m
  induction m with
  | zero =>
    intro n i hn hi H q' c' outs hO hU hm
    obtain ⟨n, rfl⟩ : ∃ n', n = n' + 1 := ⟨n - 1, by omega⟩
    have hi0 : i = es.length := by omega
    subst hi0
    refine ⟨H, q', c', outs, fun R KE => ?_, hU, by rw [hm, List.take_length], hO⟩
    have ed : decide (((es.length : Nat) : Int) < ((es.length : Nat) : Int)) = false := decide_eq_false (by omega)
    simp only [color_change_v35_l0, color_change_v35_l0_b, ed, cond_false]
  | succ m ih =>
    intro n i hn hi H q' c' outs hO hU hm
    obtain ⟨n, rfl⟩ : ∃ n', n = n' + 1 := ⟨n - 1, by omega⟩
    have ed : decide ((i : Int) < ((es.length : Nat) : Int)) = true := decide_eq_true (by omega)
    obtain ⟨e, he, hd⟩ := get_of hi
    have hN' : N ≤ H.length := by have := hO.1; omega
    have hPH : Pls H q es := hP.keep (hN ▸ hO)
    obtain ⟨b, o, e0, m0, m1, m2, m3, m4, hS⟩ := hPH.at he
    obtain ⟨q1, c1, H1, q3, H3, f, e1, e2, O3, hf, o3, n3⟩ := (hU.keep (Old.app H [e.blk])).copy (by simp; omega) (by omega) e ((hS.keep (Old.app H [e.blk])).keep (Old.app _ _)) (hx e (List.mem_of_getElem? he))
    have w := wnext (i := i) (l := es.length) (by omega) (by omega)
    obtain ⟨H', q2, c2, outs2, e3, r1, r2, r3⟩ := ih n (i + 1) (by omega) (by omega) H3 q3 unk (outs ++ [f]) (hO.trans (((Old.app H [e.blk]).mono hN').trans o3)) O3 (by rw [List.map_append, hm, List.take_add_one, he, List.map_append]; simp [hf])
    have mb : hcell (H ++ [e.blk] ++ [some ⟨[], false, 0⟩]) H.length (0 + 4) = some (.slice e.q e.xs.length e.c) := by rw [hcell_old (by simp)]; exact hcell_new _ _ _
    refine ⟨H', q2, c2, outs2, fun R KE => ?_, r1, r2, r3⟩
    unfold color_change_v35_l0 color_change_v35_l0_b
    repeat (first | (with_reducible refine (e0 _ _).trans ?_) | (with_reducible refine (e1 _ _).trans ?_) | (with_reducible refine (e2 _ _).trans ?_) | ((with_reducible refine go_ip (x := ?_) ?_ ?_); rotate_left 1; (first | ((with_reducible refine (hcell_new _ _ _).trans ?_); rfl) | exact m0 | exact m1 | exact m2 | exact m3 | exact m4 | exact mb | rfl)) | ((with_reducible refine go_bp (x := ?_) ?_ ?_); rotate_left 1; (first | ((with_reducible refine (hcell_new _ _ _).trans ?_); rfl) | exact m0 | exact m1 | exact m2 | exact m3 | exact m4 | exact mb | rfl)) | ((with_reducible refine go_lp (x := ?_) (l := ?_) (c := ?_) ?_ ?_); rotate_left 3; (first | ((with_reducible refine (hcell_new _ _ _).trans ?_); rfl) | exact m0 | exact m1 | exact m2 | exact m3 | exact m4 | exact mb | rfl)) | ((with_reducible refine go_pp (x := ?_) ?_ ?_); rotate_left 1; (first | ((with_reducible refine (hcell_new _ _ _).trans ?_); rfl) | exact m0 | exact m1 | exact m2 | exact m3 | exact m4 | exact mb | rfl)) | ((with_reducible refine go_i (x := ?_) ?_ ?_); rotate_left 1; (first | ((with_reducible refine (hcell_new _ _ _).trans ?_); rfl) | exact m0 | exact m1 | exact m2 | exact m3 | exact m4 | exact mb | rfl)) | ((with_reducible refine go_b (x := ?_) ?_ ?_); rotate_left 1; (first | ((with_reducible refine (hcell_new _ _ _).trans ?_); rfl) | exact m0 | exact m1 | exact m2 | exact m3 | exact m4 | exact mb | rfl)) | ((with_reducible refine go_l (x := ?_) (l := ?_) (c := ?_) ?_ ?_); rotate_left 3; (first | ((with_reducible refine (hcell_new _ _ _).trans ?_); rfl) | exact m0 | exact m1 | exact m2 | exact m3 | exact m4 | exact mb | rfl)) | ((with_reducible refine go_p (x := ?_) ?_ ?_); rotate_left 1; (first | ((with_reducible refine (hcell_new _ _ _).trans ?_); rfl) | exact m0 | exact m1 | exact m2 | exact m3 | exact m4 | exact mb | rfl)) | ((with_reducible refine go_halst rfl ?_ ?_ ?_); rfl; rfl) | (with_reducible refine go_halN rfl ?_) | (with_reducible refine go_t ed ?_) | (with_reducible refine go_f ed ?_) | ((with_reducible refine go_t ?_ ?_); (show _ = true; rfl)) | ((with_reducible refine go_f ?_ ?_); (show _ = false; rfl)) | (with_reducible refine go_ne ?_) | (with_reducible refine go_eq ?_) | (with_reducible refine go_fad ?_) | (with_reducible refine go_nil ?_))
    rw [w]
    exact e3 _ _
theorem change_v35_l2_eq (k : Nat) {H : Heap} {bl n s0 s1 s2 b0 b1 b2 c0 c1 c2 : Nat} {l : List Value} {g0 g1 g2 : Nat → Value} {len : Nat} (h : Tri3 H bl l n b0 b1 b2 c0 c1 c2 s0 s1 s2 g0 g1 g2) (hlen : 3 ≤ len) {i : Nat} (hi : i < n) (t : Int) (c : Nat) (x y v0 v1 v2 : Int) : ∃ H', (∀ (R : Type) (f : Nat) (KE : Int → Option Addr → Nat → Nat → Int → Int → Heap → Option R), color_change_v35_l2 k KE (f + 4) t (some ⟨bl, 0, none⟩) len c (i : Int) x y v0 v1 v2 0 H = KE t (some ⟨bl, 0, none⟩) len c x y H') ∧
    Tri3 H' bl l n b0 b1 b2 c0 c1 c2 s0 s1 s2 (fun j => if j = i then .int .i64 v0 else g0 j) (fun j => if j = i then .int .i64 v1 else g1 j) (fun j => if j = i then .int .i64 v2 else g2 j) ∧ But3 b0 b1 b2 H H' := by
  obtain ⟨H1, p1, T1, B1⟩ := h.put0 hi (.int .i64 v0)
  obtain ⟨H2, p2, T2, B2⟩ := T1.put1 hi (.int .i64 v1)
  obtain ⟨H3, p3, T3, B3⟩ := T2.put2 hi (.int .i64 v2)
  refine ⟨H3, fun R f KE => ?_, T3, (B1.trans B2).trans B3⟩
  have w1 : IntKind.wrap .i64 (0 + 1) = 1 := rfl
  have w2 : IntKind.wrap .i64 (1 + 1) = 2 := rfl
  have w3 : IntKind.wrap .i64 (2 + 1) = 3 := rfl
  have x0 : ∀ (R : Type) (K : Option Addr → Option R), hidx (some ⟨bl, 0, none⟩) len 0 5 K = K (some ⟨bl, 0, none⟩) := fun R K => by simp only [hidx]; rw [if_pos ⟨by omega, by omega⟩]; rfl
  have x1 : ∀ (R : Type) (K : Option Addr → Option R), hidx (some ⟨bl, 0, none⟩) len 1 5 K = K (some ⟨bl, 5, none⟩) := fun R K => by simp only [hidx]; rw [if_pos ⟨by omega, by omega⟩]; rfl
  have x2 : ∀ (R : Type) (K : Option Addr → Option R), hidx (some ⟨bl, 0, none⟩) len 2 5 K = K (some ⟨bl, 10, none⟩) := fun R K => by simp only [hidx]; rw [if_pos ⟨by omega, by omega⟩]; rfl
  have y : ∀ (b : Nat) (R : Type) (K : Option Addr → Option R), hidx (some ⟨b, 0, none⟩) n (i : Int) 1 K = K (some ⟨b, i, none⟩) := fun b R K => by rw [hidx_1 _ _ _ _ (by omega) (by omega), Int.toNat_natCast, Nat.zero_add]
  have y0 := y b0
  have y1 := y b1
  have y2 := y b2
  have z0 := h.l0
  have z1 := T1.l1
  have z2 := T2.l2
  have a0 : ∀ (R : Type) (K : Int → Option R), (vat [.int .i64 v0, .int .i64 v1, .int .i64 v2] 3 1 0 fun v => asI .i64 v K) = K v0 := fun R K => rfl
  have a1 : ∀ (R : Type) (K : Int → Option R), (vat [.int .i64 v0, .int .i64 v1, .int .i64 v2] 3 1 1 fun v => asI .i64 v K) = K v1 := fun R K => rfl
  have a2 : ∀ (R : Type) (K : Int → Option R), (vat [.int .i64 v0, .int .i64 v1, .int .i64 v2] 3 1 2 fun v => asI .i64 v K) = K v2 := fun R K => rfl
  unfold color_change_v35_l2 color_change_v35_l2_b
  rw [w1]
  unfold color_change_v35_l2 color_change_v35_l2_b
  rw [w2]
  unfold color_change_v35_l2 color_change_v35_l2_b
  rw [w3]
  unfold color_change_v35_l2 color_change_v35_l2_b
  repeat (first | (with_reducible refine (a0 _ _).trans ?_) | (with_reducible refine (a1 _ _).trans ?_) | (with_reducible refine (a2 _ _).trans ?_) | (with_reducible refine (x0 _ _).trans ?_) | (with_reducible refine (x1 _ _).trans ?_) | (with_reducible refine (x2 _ _).trans ?_) | (with_reducible refine (y0 _ _).trans ?_) | (with_reducible refine (y1 _ _).trans ?_) | (with_reducible refine (y2 _ _).trans ?_) | (with_reducible refine (p1 _ _).trans ?_) | (with_reducible refine (p2 _ _).trans ?_) | (with_reducible refine (p3 _ _).trans ?_) | ((with_reducible refine go_ip (x := ?_) ?_ ?_); rotate_left 1; (first | ((with_reducible refine (hcell_new _ _ _).trans ?_); rfl) | exact z0 | exact z1 | exact z2 | rfl)) | ((with_reducible refine go_bp (x := ?_) ?_ ?_); rotate_left 1; (first | ((with_reducible refine (hcell_new _ _ _).trans ?_); rfl) | exact z0 | exact z1 | exact z2 | rfl)) | ((with_reducible refine go_lp (x := ?_) (l := ?_) (c := ?_) ?_ ?_); rotate_left 3; (first | ((with_reducible refine (hcell_new _ _ _).trans ?_); rfl) | exact z0 | exact z1 | exact z2 | rfl)) | ((with_reducible refine go_pp (x := ?_) ?_ ?_); rotate_left 1; (first | ((with_reducible refine (hcell_new _ _ _).trans ?_); rfl) | exact z0 | exact z1 | exact z2 | rfl)) | ((with_reducible refine go_i (x := ?_) ?_ ?_); rotate_left 1; (first | ((with_reducible refine (hcell_new _ _ _).trans ?_); rfl) | exact z0 | exact z1 | exact z2 | rfl)) | ((with_reducible refine go_b (x := ?_) ?_ ?_); rotate_left 1; (first | ((with_reducible refine (hcell_new _ _ _).trans ?_); rfl) | exact z0 | exact z1 | exact z2 | rfl)) | ((with_reducible refine go_l (x := ?_) (l := ?_) (c := ?_) ?_ ?_); rotate_left 3; (first | ((with_reducible refine (hcell_new _ _ _).trans ?_); rfl) | exact z0 | exact z1 | exact z2 | rfl)) | ((with_reducible refine go_p (x := ?_) ?_ ?_); rotate_left 1; (first | ((with_reducible refine (hcell_new _ _ _).trans ?_); rfl) | exact z0 | exact z1 | exact z2 | rfl)) | ((with_reducible refine go_halst rfl ?_ ?_ ?_); rfl; rfl) | (with_reducible refine go_halN rfl ?_) | ((with_reducible refine go_t ?_ ?_); (show _ = true; rfl)) | ((with_reducible refine go_f ?_ ?_); (show _ = false; rfl)) | (with_reducible refine go_ne ?_) | (with_reducible refine go_eq ?_) | (with_reducible refine go_fad ?_) | (with_reducible refine go_nil ?_))
  rfl
theorem change_v35_l1_eq (k : Nat) (hk : 500 < k) {bl n s0 s1 s2 b0 b1 b2 c0 c1 c2 : Nat} {l : List Value} {X Y Z : List Int} {len : Nat} (hlen : 3 ≤ len) (hn : n ≤ 400) (t : Int) (c : Nat) : ∀ (m f i : Nat), m < f → n = i + m → ∀ (H : Heap), Tri3 H bl l n b0 b1 b2 c0 c1 c2 s0 s1 s2 (mx (fwd t) X Y Z pr0 i) (mx (fwd t) X Y Z pr1 i) (mx (fwd t) X Y Z pr2 i) → ∃ H', (∀ (R : Type) (KE : Option Addr → Nat → Nat → Heap → Option R), color_change_v35_l1 k KE f t (some ⟨bl, 0, none⟩) len c ((n : Nat) : Int) (i : Int) H = KE (some ⟨bl, 0, none⟩) len c H') ∧
    Tri3 H' bl l n b0 b1 b2 c0 c1 c2 s0 s1 s2 (mx (fwd t) X Y Z pr0 n) (mx (fwd t) X Y Z pr1 n) (mx (fwd t) X Y Z pr2 n) ∧ But3 b0 b1 b2 H H' := by
  intro m
  induction m with
  | zero =>
    intro f i hf hi H h
    obtain ⟨f, rfl⟩ : ∃ f', f = f' + 1 := ⟨f - 1, by omega⟩
    have hi0 : i = n := by omega
    subst hi0
    have ed : decide (((i : Nat) : Int) < ((i : Nat) : Int)) = false := decide_eq_false (by omega)
    refine ⟨H, fun R KE => ?_, h, .refl _ _ _ _⟩
    simp only [color_change_v35_l1, color_change_v35_l1_b, ed, cond_false]
  | succ m ih =>
    intro f i hf hi H h
    obtain ⟨f, rfl⟩ : ∃ f', f = f' + 1 := ⟨f - 1, by omega⟩
    obtain ⟨kk, rfl⟩ : ∃ kk, k = kk + 4 := ⟨k - 4, by omega⟩
    have hin : i < n := by omega
    have ed : decide (((i : Nat) : Int) < ((n : Nat) : Int)) = true := decide_eq_true (by omega)
    obtain ⟨J, ef⟩ := forward_eq t (X.getD i 0) (Y.getD i 0) (Z.getD i 0) (roH H)
    have hT1 := h.app (J := [some ⟨[.int .i64 (fwd t (X.getD i 0) (Y.getD i 0) (Z.getD i 0)).1, .int .i64 (fwd t (X.getD i 0) (Y.getD i 0) (Z.getD i 0)).2.1, .int .i64 (fwd t (X.getD i 0) (Y.getD i 0) (Z.getD i 0)).2.2], false, 0⟩])
    obtain ⟨H2, e2, T2, B2⟩ := change_v35_l2_eq (kk + 4) hT1 hlen hin t c ((n : Nat) : Int) (i : Int) (fwd t (X.getD i 0) (Y.getD i 0) (Z.getD i 0)).1 (fwd t (X.getD i 0) (Y.getD i 0) (Z.getD i 0)).2.1 (fwd t (X.getD i 0) (Y.getD i 0) (Z.getD i 0)).2.2
    have T2' := T2.congr (mx_next (fwd t) X Y Z pr0 i) (mx_next (fwd t) X Y Z pr1 i) (mx_next (fwd t) X Y Z pr2 i)
    obtain ⟨H3, e3, T3, B3⟩ := ih f (i + 1) (by omega) (by omega) H2 T2'
    have w := wnext (i := i) (l := n) (by omega) (by omega)
    refine ⟨H3, fun R KE => ?_, T3, ((But3.app _ _ _ _ _).trans B2).trans B3⟩
    have x0 : ∀ (R : Type) (K : Option Addr → Option R), hidx (some ⟨bl, 0, none⟩) len 0 5 K = K (some ⟨bl, 0, none⟩) := fun R K => by simp only [hidx]; rw [if_pos ⟨by omega, by omega⟩]; rfl
    have x1 : ∀ (R : Type) (K : Option Addr → Option R), hidx (some ⟨bl, 0, none⟩) len 1 5 K = K (some ⟨bl, 5, none⟩) := fun R K => by simp only [hidx]; rw [if_pos ⟨by omega, by omega⟩]; rfl
    have x2 : ∀ (R : Type) (K : Option Addr → Option R), hidx (some ⟨bl, 0, none⟩) len 2 5 K = K (some ⟨bl, 10, none⟩) := fun R K => by simp only [hidx]; rw [if_pos ⟨by omega, by omega⟩]; rfl
    have y : ∀ (b : Nat) (R : Type) (K : Option Addr → Option R), hidx (some ⟨b, 0, none⟩) n (i : Int) 1 K = K (some ⟨b, i, none⟩) := fun b R K => by rw [hidx_1 _ _ _ _ (by omega) (by omega), Int.toNat_natCast, Nat.zero_add]
    have y0 := y b0
    have y1 := y b1
    have y2 := y b2
    have z0 := h.l0
    have z1 := h.l1
    have z2 := h.l2
    have v0 := h.v0 hin (mx_at (fwd t) X Y Z pr0 i)
    have v1 := h.v1 hin (mx_at (fwd t) X Y Z pr1 i)
    have v2 := h.v2 hin (mx_at (fwd t) X Y Z pr2 i)
    unfold color_change_v35_l1 color_change_v35_l1_b
    repeat (first | (with_reducible refine (x0 _ _).trans ?_) | (with_reducible refine (x1 _ _).trans ?_) | (with_reducible refine (x2 _ _).trans ?_) | (with_reducible refine (y0 _ _).trans ?_) | (with_reducible refine (y1 _ _).trans ?_) | (with_reducible refine (y2 _ _).trans ?_) | (with_reducible refine (ef _ _).trans ?_) | ((with_reducible refine go_ip (x := ?_) ?_ ?_); rotate_left 1; (first | ((with_reducible refine (hcell_new _ _ _).trans ?_); rfl) | exact z0 | exact z1 | exact z2 | exact v0 | exact v1 | exact v2 | rfl)) | ((with_reducible refine go_bp (x := ?_) ?_ ?_); rotate_left 1; (first | ((with_reducible refine (hcell_new _ _ _).trans ?_); rfl) | exact z0 | exact z1 | exact z2 | exact v0 | exact v1 | exact v2 | rfl)) | ((with_reducible refine go_lp (x := ?_) (l := ?_) (c := ?_) ?_ ?_); rotate_left 3; (first | ((with_reducible refine (hcell_new _ _ _).trans ?_); rfl) | exact z0 | exact z1 | exact z2 | exact v0 | exact v1 | exact v2 | rfl)) | ((with_reducible refine go_pp (x := ?_) ?_ ?_); rotate_left 1; (first | ((with_reducible refine (hcell_new _ _ _).trans ?_); rfl) | exact z0 | exact z1 | exact z2 | exact v0 | exact v1 | exact v2 | rfl)) | ((with_reducible refine go_i (x := ?_) ?_ ?_); rotate_left 1; (first | ((with_reducible refine (hcell_new _ _ _).trans ?_); rfl) | exact z0 | exact z1 | exact z2 | exact v0 | exact v1 | exact v2 | rfl)) | ((with_reducible refine go_b (x := ?_) ?_ ?_); rotate_left 1; (first | ((with_reducible refine (hcell_new _ _ _).trans ?_); rfl) | exact z0 | exact z1 | exact z2 | exact v0 | exact v1 | exact v2 | rfl)) | ((with_reducible refine go_l (x := ?_) (l := ?_) (c := ?_) ?_ ?_); rotate_left 3; (first | ((with_reducible refine (hcell_new _ _ _).trans ?_); rfl) | exact z0 | exact z1 | exact z2 | exact v0 | exact v1 | exact v2 | rfl)) | ((with_reducible refine go_p (x := ?_) ?_ ?_); rotate_left 1; (first | ((with_reducible refine (hcell_new _ _ _).trans ?_); rfl) | exact z0 | exact z1 | exact z2 | exact v0 | exact v1 | exact v2 | rfl)) | ((with_reducible refine go_halst rfl ?_ ?_ ?_); rfl; rfl) | (with_reducible refine go_halN rfl ?_) | (with_reducible refine go_t ed ?_) | (with_reducible refine go_f ed ?_) | ((with_reducible refine go_t ?_ ?_); (show _ = true; rfl)) | ((with_reducible refine go_f ?_ ?_); (show _ = false; rfl)) | (with_reducible refine go_ne ?_) | (with_reducible refine go_eq ?_) | (with_reducible refine go_fad ?_) | (with_reducible refine go_nil ?_))
    refine (e2 _ _ _).trans ?_
    rw [w]
    exact e3 _ _
theorem change_v35_eq {k : Nat} (hk : 500 < k) (t : Int) {H0 : Heap} {q : Option Addr} {es : List Pr} (c : Nat) (hP : Pls H0 q es) (hl : es.length ≤ 6) (hx : ∀ e ∈ es, e.xs.length ≤ 400) (h3 : (t == 0) = false → 3 ≤ es.length ∧ ∃ n, ∀ e ∈ es.take 3, e.xs.length = n) : ∃ H' q2 c2 outs, (∀ (R : Type) (K : Option Addr → Nat → Nat → Heap → Option R), color_change_v35 k t q es.length c H0 K = K q2 es.length c2 H') ∧ Outs H0.length H' q2 es.length c2 outs ∧ outs.map Pr.pl = trp (fwd t) t (es.map Pr.pl) ∧ Old H0.length H0 H' := by
  obtain ⟨H1, q1, c1, outs, e1, U1, p1, o1⟩ := change_v35_l0_eq k t c rfl hP hl hx es.length k 0 (by omega) (by omega) H0 none 0 [] (Old.refl _ _) (Outs.nil _ _) rfl
  simp only [Int.natCast_zero] at e1
  cases ht : t == 0 with
  | true =>
    refine ⟨H1, q1, c1, outs, fun R K => ?_, U1, by rw [p1]; unfold trp; rw [ht]; rfl, o1⟩
    unfold color_change_v35 color_change_v35_b
    refine (e1 _ _).trans ?_
    exact go_t ht rfl
  | false =>
    obtain ⟨h3, n, hn⟩ := h3 ht
    obtain ⟨bl, c0, c1', c2', s0, s1, s2, b0, b1, b2, X, Y, Z, hq, T, hNb, _, hr⟩ := U1.tri (fwd t) p1 h3 hn
    have hn4 : n ≤ 400 := by
      obtain ⟨f0, f1, f2, r, rfl⟩ := three h3
      have := hn f0 (by simp)
      have := hx f0 (by simp)
      omega
    subst hq
    obtain ⟨H2, e2, T2, B2⟩ := change_v35_l1_eq k hk h3 hn4 t c1 n k 0 (by omega) (by omega) H1 T
    simp only [Int.natCast_zero] at e2
    obtain ⟨outs2, U2, p2⟩ := hr H2 T2 B2
    refine ⟨H2, _, c1, outs2, fun R K => ?_, U2, by rw [p2]; unfold trp; rw [ht]; rfl, o1.trans (B2.old hNb o1.1)⟩
    have x0 : ∀ (R : Type) (K : Option Addr → Option R), hidx (some ⟨bl, 0, none⟩) es.length 0 5 K = K (some ⟨bl, 0, none⟩) := fun R K => by simp only [hidx]; rw [if_pos ⟨by omega, by omega⟩]; rfl
    have z0 := T.l0
    unfold color_change_v35 color_change_v35_b
    refine (e1 _ _).trans ?_
    repeat (first | (with_reducible refine (x0 _ _).trans ?_) | ((with_reducible refine go_ip (x := ?_) ?_ ?_); rotate_left 1; (first | ((with_reducible refine (hcell_new _ _ _).trans ?_); rfl) | exact z0 | rfl)) | ((with_reducible refine go_bp (x := ?_) ?_ ?_); rotate_left 1; (first | ((with_reducible refine (hcell_new _ _ _).trans ?_); rfl) | exact z0 | rfl)) | ((with_reducible refine go_lp (x := ?_) (l := ?_) (c := ?_) ?_ ?_); rotate_left 3; (first | ((with_reducible refine (hcell_new _ _ _).trans ?_); rfl) | exact z0 | rfl)) | ((with_reducible refine go_pp (x := ?_) ?_ ?_); rotate_left 1; (first | ((with_reducible refine (hcell_new _ _ _).trans ?_); rfl) | exact z0 | rfl)) | ((with_reducible refine go_i (x := ?_) ?_ ?_); rotate_left 1; (first | ((with_reducible refine (hcell_new _ _ _).trans ?_); rfl) | exact z0 | rfl)) | ((with_reducible refine go_b (x := ?_) ?_ ?_); rotate_left 1; (first | ((with_reducible refine (hcell_new _ _ _).trans ?_); rfl) | exact z0 | rfl)) | ((with_reducible refine go_l (x := ?_) (l := ?_) (c := ?_) ?_ ?_); rotate_left 3; (first | ((with_reducible refine (hcell_new _ _ _).trans ?_); rfl) | exact z0 | rfl)) | ((with_reducible refine go_p (x := ?_) ?_ ?_); rotate_left 1; (first | ((with_reducible refine (hcell_new _ _ _).trans ?_); rfl) | exact z0 | rfl)) | ((with_reducible refine go_halst rfl ?_ ?_ ?_); rfl; rfl) | (with_reducible refine go_halN rfl ?_) | (with_reducible refine go_t ht ?_) | (with_reducible refine go_f ht ?_) | ((with_reducible refine go_t ?_ ?_); (show _ = true; rfl)) | ((with_reducible refine go_f ?_ ?_); (show _ = false; rfl)) | (with_reducible refine go_ne ?_) | (with_reducible refine go_eq ?_) | (with_reducible refine go_fad ?_) | (with_reducible refine go_nil ?_))
    exact e2 _ _
end Go.Proofs.Ytoeoolnkndkefaa.Sh
/- Range, Shift and Unshift return what the reference returns. -/
set_option linter.unusedVariables false
set_option linter.unusedSimpArgs false
namespace Go.Proofs.Ytoeoolnkndkefaa.Sh
open Go.Proofs.Ytoeoolnkndkefaa.FW
abbrev dRect : D := .pair (.int .i64) (.pair (.int .i64) (.pair (.int .i64) (.pair (.int .i64) .nil)))
abbrev dPlane : D := .pair dRect (.pair (.slc (.int .i64)) .nil)
abbrev dComp : D := .pair (.int .i64) (.pair .bool (.pair (.int .i64) (.pair (.int .i64) .nil)))
theorem ints_of {H : Heap} : ∀ (es : List (List Value)), (∀ e ∈ es, Shp (.int .i64) H e) → ∃ xs : List Int, xs.length = es.length ∧ es.flatten = ints xs ∧ ∀ v ∈ xs, -9223372036854775808 ≤ v ∧ v ≤ 9223372036854775807 := by
  intro es
  induction es with
  | nil => intro _; exact ⟨[], rfl, rfl, fun v h => by cases h⟩
  | cons e es ih =>
    intro h
    obtain ⟨xs, h1, h2, h3⟩ := ih fun x hx => h x (List.mem_cons_of_mem _ hx)
    obtain ⟨a, rfl, ha⟩ := h e (by simp)
    refine ⟨a :: xs, by simp [h1], by rw [List.flatten_cons, h2]; rfl, fun v hv => ?_⟩
    rcases List.mem_cons.1 hv with rfl | hv
    · exact wf_64 ha
    · exact h3 v hv
/-- A plane that came in. -/
theorem plane_of {H : Heap} {vs : List Value} (h : Shp dPlane H vs) : ∃ (x0 y0 x1 y1 : Int) (q : Option Addr) (xs : List Int) (c : Nat), vs = pl5 x0 y0 x1 y1 q xs.length c ∧ Shows H q (ints xs) ∧ ∀ v ∈ xs, -9223372036854775808 ≤ v ∧ v ≤ 9223372036854775807 := by
  obtain ⟨r, t, rfl, ⟨_, _, rfl, ⟨a, rfl, _⟩, _, _, rfl, ⟨b, rfl, _⟩, _, _, rfl, ⟨c, rfl, _⟩, _, y4, rfl, ⟨d, rfl, _⟩, hn⟩, _, y5, rfl, ⟨q, cc, es, rfl, _, _, he, hs⟩, hn2⟩ := h
  have hn' : y4 = [] := hn
  have hn2' : y5 = [] := hn2
  subst hn' hn2'
  obtain ⟨xs, g1, g2, g3⟩ := ints_of es he
  rw [g2] at hs
  exact ⟨a, b, c, d, q, xs, cc, by rw [g1]; rfl, hs, g3⟩
theorem comp_of {H : Heap} {vs : List Value} (h : Shp dComp H vs) : ∃ (d : Int) (s : Bool) (x y : Int), vs = cmp4 d s x y := by
  obtain ⟨_, _, rfl, ⟨a, rfl, _⟩, _, _, rfl, ⟨b, rfl⟩, _, _, rfl, ⟨c, rfl, _⟩, _, y4, rfl, ⟨d, rfl, _⟩, hn⟩ := h
  have hn' : y4 = [] := hn
  subst hn'
  exact ⟨a, b, c, d, rfl⟩
set_option maxHeartbeats 4000000 in
theorem shifts_in (H : Heap) (us : List Value) (h : AllLies H [(dPlane, true), (dComp, true)] us) : L_ColorShifts_c Bool 600 us H asB = some true := by
  obtain ⟨vs, _, rfl, hp, h1⟩ := lies_agg h
  obtain ⟨ws, _, rfl, hc, h2⟩ := lies_agg h1
  cases lies_nil h2
  obtain ⟨x0, y0, x1, y1, q, xs, c, rfl, hS, _⟩ := plane_of hp
  obtain ⟨d, s, x, y, rfl⟩ := comp_of hc
  show L_ColorShifts 600 x0 y0 x1 y1 q xs.length c d s x y H (fun t H => asB (.bool t) H) = some true
  have fin : ∀ (H : Heap), L_exampleHoldsq (fun t => asB (.bool t) H) = some true := fun H => rfl
  obtain ⟨H0, hH0⟩ : ∃ X : Heap, X = H ++ [some ⟨[.int .i64 x0, .int .i64 y0, .int .i64 x1, .int .i64 y1, .slice q xs.length c], false, 0⟩] ++ [some ⟨[.int .i64 d, .bool s, .int .i64 x, .int .i64 y], false, 0⟩] := ⟨_, rfl⟩
  obtain ⟨J1, e1⟩ := few1_eq x0 y0 x1 y1 q xs.length c H0
  have hA0 : Sees H0 H.length (pl5 x0 y0 x1 y1 q xs.length c) := ⟨⟨_, false, 0⟩, by rw [hH0]; simp (disch := (first | assumption | omega | exact Nat.le_of_ble_eq_true rfl | (simp only [List.length_append, List.length_cons, List.length_nil]; omega))) only [hblk_new, hblk_old], rfl⟩
  have hC0 : Sees H0 (H ++ [some (⟨[.int .i64 x0, .int .i64 y0, .int .i64 x1, .int .i64 y1, .slice q xs.length c], false, 0⟩ : Blk)]).length (cmp4 d s x y) := ⟨⟨_, false, 0⟩, by rw [hH0]; simp (disch := (first | assumption | omega | exact Nat.le_of_ble_eq_true rfl | (simp only [List.length_append, List.length_cons, List.length_nil]; omega))) only [hblk_new, hblk_old], rfl⟩
  have mA0 := hA0.cell
  have mC0 := hC0.cell
  unfold pl5 at mA0
  unfold cmp4 at mC0
  cases hf : decide (xs.length ≤ 400) with
  | false =>
    rw [hf] at e1
    unfold L_ColorShifts L_ColorShifts_b
    refine go_hal ?_
    refine go_halN hH0 ?_
    repeat (first | (with_reducible refine (e1 _ _).trans ?_) | ((with_reducible refine go_ip (x := ?_) ?_ ?_); rotate_left 1; (first | ((with_reducible refine (mA0 _).trans ?_); rfl) | ((with_reducible refine (mC0 _).trans ?_); rfl) | rfl)) | ((with_reducible refine go_bp (x := ?_) ?_ ?_); rotate_left 1; (first | ((with_reducible refine (mA0 _).trans ?_); rfl) | ((with_reducible refine (mC0 _).trans ?_); rfl) | rfl)) | ((with_reducible refine go_lp (x := ?_) (l := ?_) (c := ?_) ?_ ?_); rotate_left 3; (first | ((with_reducible refine (mA0 _).trans ?_); rfl) | ((with_reducible refine (mC0 _).trans ?_); rfl) | rfl)) | ((with_reducible refine go_pp (x := ?_) ?_ ?_); rotate_left 1; (first | ((with_reducible refine (mA0 _).trans ?_); rfl) | ((with_reducible refine (mC0 _).trans ?_); rfl) | rfl)) | ((with_reducible refine go_i (x := ?_) ?_ ?_); rotate_left 1; (first | ((with_reducible refine (mA0 _).trans ?_); rfl) | ((with_reducible refine (mC0 _).trans ?_); rfl) | rfl)) | ((with_reducible refine go_b (x := ?_) ?_ ?_); rotate_left 1; (first | ((with_reducible refine (mA0 _).trans ?_); rfl) | ((with_reducible refine (mC0 _).trans ?_); rfl) | rfl)) | ((with_reducible refine go_l (x := ?_) (l := ?_) (c := ?_) ?_ ?_); rotate_left 3; (first | ((with_reducible refine (mA0 _).trans ?_); rfl) | ((with_reducible refine (mC0 _).trans ?_); rfl) | rfl)) | ((with_reducible refine go_p (x := ?_) ?_ ?_); rotate_left 1; (first | ((with_reducible refine (mA0 _).trans ?_); rfl) | ((with_reducible refine (mC0 _).trans ?_); rfl) | rfl)) | (with_reducible refine go_hal ?_) | ((with_reducible refine go_t ?_ ?_); (show _ = true; rfl)) | ((with_reducible refine go_f ?_ ?_); (show _ = false; rfl)) | (with_reducible refine go_ne ?_) | (with_reducible refine go_eq ?_) | (with_reducible refine go_fad ?_) | (with_reducible refine go_nil ?_))
    exact fin _
  | true =>
    rw [hf] at e1
    have hl : xs.length ≤ 400 := of_decide_eq_true hf
    obtain ⟨J2, e2⟩ := Range_eq d s x y (H0 ++ J1)
    obtain ⟨J3, e3⟩ := RangeR_eq 600 (by omega) d s x y (H0 ++ J1 ++ J2)
    have hS3 : Shows (H0 ++ J1 ++ J2 ++ J3) q (ints xs) := hS.keep (by rw [hH0]; simp only [List.append_assoc]; exact Old.app _ _)
    obtain ⟨q4, c4, H4, e4, s4, o4⟩ := Shift_eq 600 (by omega) hS3 hl x0 y0 x1 y1 c d s x y
    have hA3 : Sees (H0 ++ J1 ++ J2 ++ J3) H.length (pl5 x0 y0 x1 y1 q xs.length c) := ⟨⟨_, false, 0⟩, by rw [hH0]; simp (disch := (first | assumption | omega | exact Nat.le_of_ble_eq_true rfl | (simp only [List.length_append, List.length_cons, List.length_nil]; omega))) only [hblk_new, hblk_old], rfl⟩
    have hC3 : Sees (H0 ++ J1 ++ J2 ++ J3) (H ++ [some (⟨[.int .i64 x0, .int .i64 y0, .int .i64 x1, .int .i64 y1, .slice q xs.length c], false, 0⟩ : Blk)]).length (cmp4 d s x y) := ⟨⟨_, false, 0⟩, by rw [hH0]; simp (disch := (first | assumption | omega | exact Nat.le_of_ble_eq_true rfl | (simp only [List.length_append, List.length_cons, List.length_nil]; omega))) only [hblk_new, hblk_old], rfl⟩
    generalize hr : shf x0 y0 x1 y1 xs d s = r4 at e4 s4
    have hl4 : r4.2.length ≤ 400 := by
      rw [← hr]; unfold shf
      cases pv x0 y0 x1 y1 xs.length <;> cases dp d <;> cases xs.any (bad d s) <;> simp [hl]
    have bl : (H ++ [some (⟨[.int .i64 x0, .int .i64 y0, .int .i64 x1, .int .i64 y1, .slice q xs.length c], false, 0⟩ : Blk)]).length = H.length + 1 := by simp
    have L3 : H.length + 2 ≤ (H0 ++ J1 ++ J2 ++ J3).length := by
      rw [hH0]
      simp only [List.length_append, List.length_cons, List.length_nil]; omega
    have L4 := o4.1
    -- behind Shift
    obtain ⟨H5, hH5⟩ : ∃ X, X = H4 ++ [some (⟨pl5 (zz r4.1 x0) (zz r4.1 y0) (zz r4.1 x1) (zz r4.1 y1) q4 r4.2.length c4, false, 0⟩ : Blk)] := ⟨_, rfl⟩
    have o5 : Old H4.length H4 H5 := by rw [hH5]; exact Old.app _ _
    have n5 : H5.length = H4.length + 1 := by rw [hH5]; simp
    have hP5 : Sees H5 H4.length (pl5 (zz r4.1 x0) (zz r4.1 y0) (zz r4.1 x1) (zz r4.1 y1) q4 r4.2.length c4) := ⟨_, by rw [hH5]; exact hblk_new _ _, rfl⟩
    have hS5 : Shows H5 q (ints xs) := (hS3.keep o4).keep o5
    obtain ⟨q6, c6, H6, e6, s6, o6⟩ := ShiftR_eq 600 (by omega) hS5 hl x0 y0 x1 y1 c d s x y
    rw [hr] at e6 s6
    have L6 := o6.1
    have hs46 : Shows H6 q4 (ints r4.2) := (s4.keep o5).keep o6
    obtain ⟨H7, hH7⟩ : ∃ X, X = H6 ++ [some (⟨pl5 (zz r4.1 x0) (zz r4.1 y0) (zz r4.1 x1) (zz r4.1 y1) q6 r4.2.length c6, false, 0⟩ : Blk)] := ⟨_, rfl⟩
    have o7 : Old H6.length H6 H7 := by rw [hH7]; exact Old.app _ _
    have n7 : H7.length = H6.length + 1 := by rw [hH7]; simp
    have hQ7 : Sees H7 H6.length (pl5 (zz r4.1 x0) (zz r4.1 y0) (zz r4.1 x1) (zz r4.1 y1) q6 r4.2.length c6) := ⟨_, by rw [hH7]; exact hblk_new _ _, rfl⟩
    obtain ⟨J8, e8⟩ := same_eq (k := 600) (by omega) c4 c6 (hs46.keep o7) (s6.keep o7) hl4 (zz r4.1 x0) (zz r4.1 y0) (zz r4.1 x1) (zz r4.1 y1)
    -- behind the comparison
    have o8 : Old H7.length H7 (H7 ++ J8) := Old.app _ _
    have oa : Old (H0 ++ J1 ++ J2 ++ J3).length (H0 ++ J1 ++ J2 ++ J3) (H7 ++ J8) := o4.trans ((o5.mono L4).trans ((o6.mono (by omega)).trans ((o7.mono (by omega)).trans (o8.mono (by omega)))))
    have hS8 : Shows (H7 ++ J8) q (ints xs) := hS3.keep oa
    obtain ⟨q9, c9, H9, e9, s9, o9⟩ := Unshift_eq 600 (by omega) hS8 hl x0 y0 x1 y1 c d s x y
    generalize hu : usf x0 y0 x1 y1 xs d s = u4 at e9 s9
    have hlu : u4.2.length ≤ 400 := by
      rw [← hu]; unfold usf
      cases pv x0 y0 x1 y1 xs.length <;> cases dp d <;> simp [hl]
    have L9 := o9.1
    have L8 : H7.length ≤ (H7 ++ J8).length := by simp
    obtain ⟨Ha, hHa⟩ : ∃ X, X = H9 ++ [some (⟨pl5 (zz u4.1 x0) (zz u4.1 y0) (zz u4.1 x1) (zz u4.1 y1) q9 u4.2.length c9, false, 0⟩ : Blk)] := ⟨_, rfl⟩
    have oaa : Old H9.length H9 Ha := by rw [hHa]; exact Old.app _ _
    have na : Ha.length = H9.length + 1 := by rw [hHa]; simp
    have hPa : Sees Ha H9.length (pl5 (zz u4.1 x0) (zz u4.1 y0) (zz u4.1 x1) (zz u4.1 y1) q9 u4.2.length c9) := ⟨_, by rw [hHa]; exact hblk_new _ _, rfl⟩
    have hSa : Shows Ha q (ints xs) := (hS8.keep o9).keep oaa
    obtain ⟨qb, cb, Hb, eb, sb, ob⟩ := UnshiftR_eq 600 (by omega) hSa hl x0 y0 x1 y1 c d s x y
    rw [hu] at eb sb
    have Lb := ob.1
    have hs9b : Shows Hb q9 (ints u4.2) := (s9.keep oaa).keep ob
    obtain ⟨Hc, hHc⟩ : ∃ X, X = Hb ++ [some (⟨pl5 (zz u4.1 x0) (zz u4.1 y0) (zz u4.1 x1) (zz u4.1 y1) qb u4.2.length cb, false, 0⟩ : Blk)] := ⟨_, rfl⟩
    have oc : Old Hb.length Hb Hc := by rw [hHc]; exact Old.app _ _
    have nc : Hc.length = Hb.length + 1 := by rw [hHc]; simp
    have hQc : Sees Hc Hb.length (pl5 (zz u4.1 x0) (zz u4.1 y0) (zz u4.1 x1) (zz u4.1 y1) qb u4.2.length cb) := ⟨_, by rw [hHc]; exact hblk_new _ _, rfl⟩
    obtain ⟨Jd, ed⟩ := same_eq (k := 600) (by omega) c9 cb (hs9b.keep oc) (sb.keep oc) hlu (zz u4.1 x0) (zz u4.1 y0) (zz u4.1 x1) (zz u4.1 y1)
    have o39 : Old (H0 ++ J1 ++ J2 ++ J3).length (H0 ++ J1 ++ J2 ++ J3) Ha := oa.trans ((o9.mono (by omega)).trans (oaa.mono (by omega)))
    have n0 : H0.length = H.length + 2 := by rw [hH0]; simp
    have mC1 := (hC0.old (Old.app H0 J1) (by omega)).cell
    have mC2 := (hC0.old ((Old.app H0 J1).trans ((Old.app (H0 ++ J1) J2).mono (Old.app H0 J1).1)) (by omega)).cell
    unfold cmp4 at mC1 mC2
    have mA := hA3.cell
    have mC := hC3.cell
    have mA5 := ((hA3.old o4 (by omega)).old o5 (by omega)).cell
    have mC5 := ((hC3.old o4 (by omega)).old o5 (by omega)).cell
    have mP7 := ((hP5.old o6 (by omega)).old o7 (by omega)).cell
    have mQ7 := hQ7.cell
    have mA8 := (hA3.old oa (by omega)).cell
    have mC8 := (hC3.old oa (by omega)).cell
    have mAa := (hA3.old o39 (by omega)).cell
    have mCa := (hC3.old o39 (by omega)).cell
    have mPc := ((hPa.old ob (by omega)).old oc (by omega)).cell
    have mQc := hQc.cell
    unfold pl5 at hH5 hH7 hHa hHc mA mA5 mP7 mQ7 mA8 mAa mPc mQc
    unfold cmp4 at mC mC5 mC8 mCa
    have hH5' := hH5.symm
    have hH7' := hH7.symm
    have hHa' := hHa.symm
    have hHc' := hHc.symm
    unfold L_ColorShifts L_ColorShifts_b L_ColorShifts_p0 L_ColorShifts_p0_b L_ColorShifts_p1 L_ColorShifts_p1_b
    dsimp only
    refine go_hal ?_
    refine go_halN hH0 ?_
    repeat (first | (with_reducible refine (e1 _ _).trans ?_) | (with_reducible refine (e2 _ _).trans ?_) | (with_reducible refine (e3 _ _).trans ?_) | (with_reducible refine (e4 _ _).trans ?_) | (with_reducible refine (e6 _ _).trans ?_) | (with_reducible refine (e8 _ _).trans ?_) | (with_reducible refine (e9 _ _).trans ?_) | (with_reducible refine (eb _ _).trans ?_) | (with_reducible refine (ed _ _).trans ?_) | ((with_reducible refine go_ip (x := ?_) ?_ ?_); rotate_left 1; (first | ((with_reducible refine (mA0 _).trans ?_); rfl) | ((with_reducible refine (mC0 _).trans ?_); rfl) | ((with_reducible refine (mC1 _).trans ?_); rfl) | ((with_reducible refine (mC2 _).trans ?_); rfl) | ((with_reducible refine (mA _).trans ?_); rfl) | ((with_reducible refine (mC _).trans ?_); rfl) | ((with_reducible refine (mA5 _).trans ?_); rfl) | ((with_reducible refine (mC5 _).trans ?_); rfl) | ((with_reducible refine (mP7 _).trans ?_); rfl) | ((with_reducible refine (mQ7 _).trans ?_); rfl) | ((with_reducible refine (mA8 _).trans ?_); rfl) | ((with_reducible refine (mC8 _).trans ?_); rfl) | ((with_reducible refine (mAa _).trans ?_); rfl) | ((with_reducible refine (mCa _).trans ?_); rfl) | ((with_reducible refine (mPc _).trans ?_); rfl) | ((with_reducible refine (mQc _).trans ?_); rfl) | rfl)) | ((with_reducible refine go_bp (x := ?_) ?_ ?_); rotate_left 1; (first | ((with_reducible refine (mA0 _).trans ?_); rfl) | ((with_reducible refine (mC0 _).trans ?_); rfl) | ((with_reducible refine (mC1 _).trans ?_); rfl) | ((with_reducible refine (mC2 _).trans ?_); rfl) | ((with_reducible refine (mA _).trans ?_); rfl) | ((with_reducible refine (mC _).trans ?_); rfl) | ((with_reducible refine (mA5 _).trans ?_); rfl) | ((with_reducible refine (mC5 _).trans ?_); rfl) | ((with_reducible refine (mP7 _).trans ?_); rfl) | ((with_reducible refine (mQ7 _).trans ?_); rfl) | ((with_reducible refine (mA8 _).trans ?_); rfl) | ((with_reducible refine (mC8 _).trans ?_); rfl) | ((with_reducible refine (mAa _).trans ?_); rfl) | ((with_reducible refine (mCa _).trans ?_); rfl) | ((with_reducible refine (mPc _).trans ?_); rfl) | ((with_reducible refine (mQc _).trans ?_); rfl) | rfl)) | ((with_reducible refine go_lp (x := ?_) (l := ?_) (c := ?_) ?_ ?_); rotate_left 3; (first | ((with_reducible refine (mA0 _).trans ?_); rfl) | ((with_reducible refine (mC0 _).trans ?_); rfl) | ((with_reducible refine (mC1 _).trans ?_); rfl) | ((with_reducible refine (mC2 _).trans ?_); rfl) | ((with_reducible refine (mA _).trans ?_); rfl) | ((with_reducible refine (mC _).trans ?_); rfl) | ((with_reducible refine (mA5 _).trans ?_); rfl) | ((with_reducible refine (mC5 _).trans ?_); rfl) | ((with_reducible refine (mP7 _).trans ?_); rfl) | ((with_reducible refine (mQ7 _).trans ?_); rfl) | ((with_reducible refine (mA8 _).trans ?_); rfl) | ((with_reducible refine (mC8 _).trans ?_); rfl) | ((with_reducible refine (mAa _).trans ?_); rfl) | ((with_reducible refine (mCa _).trans ?_); rfl) | ((with_reducible refine (mPc _).trans ?_); rfl) | ((with_reducible refine (mQc _).trans ?_); rfl) | rfl)) | ((with_reducible refine go_pp (x := ?_) ?_ ?_); rotate_left 1; (first | ((with_reducible refine (mA0 _).trans ?_); rfl) | ((with_reducible refine (mC0 _).trans ?_); rfl) | ((with_reducible refine (mC1 _).trans ?_); rfl) | ((with_reducible refine (mC2 _).trans ?_); rfl) | ((with_reducible refine (mA _).trans ?_); rfl) | ((with_reducible refine (mC _).trans ?_); rfl) | ((with_reducible refine (mA5 _).trans ?_); rfl) | ((with_reducible refine (mC5 _).trans ?_); rfl) | ((with_reducible refine (mP7 _).trans ?_); rfl) | ((with_reducible refine (mQ7 _).trans ?_); rfl) | ((with_reducible refine (mA8 _).trans ?_); rfl) | ((with_reducible refine (mC8 _).trans ?_); rfl) | ((with_reducible refine (mAa _).trans ?_); rfl) | ((with_reducible refine (mCa _).trans ?_); rfl) | ((with_reducible refine (mPc _).trans ?_); rfl) | ((with_reducible refine (mQc _).trans ?_); rfl) | rfl)) | ((with_reducible refine go_i (x := ?_) ?_ ?_); rotate_left 1; (first | ((with_reducible refine (mA0 _).trans ?_); rfl) | ((with_reducible refine (mC0 _).trans ?_); rfl) | ((with_reducible refine (mC1 _).trans ?_); rfl) | ((with_reducible refine (mC2 _).trans ?_); rfl) | ((with_reducible refine (mA _).trans ?_); rfl) | ((with_reducible refine (mC _).trans ?_); rfl) | ((with_reducible refine (mA5 _).trans ?_); rfl) | ((with_reducible refine (mC5 _).trans ?_); rfl) | ((with_reducible refine (mP7 _).trans ?_); rfl) | ((with_reducible refine (mQ7 _).trans ?_); rfl) | ((with_reducible refine (mA8 _).trans ?_); rfl) | ((with_reducible refine (mC8 _).trans ?_); rfl) | ((with_reducible refine (mAa _).trans ?_); rfl) | ((with_reducible refine (mCa _).trans ?_); rfl) | ((with_reducible refine (mPc _).trans ?_); rfl) | ((with_reducible refine (mQc _).trans ?_); rfl) | rfl)) | ((with_reducible refine go_b (x := ?_) ?_ ?_); rotate_left 1; (first | ((with_reducible refine (mA0 _).trans ?_); rfl) | ((with_reducible refine (mC0 _).trans ?_); rfl) | ((with_reducible refine (mC1 _).trans ?_); rfl) | ((with_reducible refine (mC2 _).trans ?_); rfl) | ((with_reducible refine (mA _).trans ?_); rfl) | ((with_reducible refine (mC _).trans ?_); rfl) | ((with_reducible refine (mA5 _).trans ?_); rfl) | ((with_reducible refine (mC5 _).trans ?_); rfl) | ((with_reducible refine (mP7 _).trans ?_); rfl) | ((with_reducible refine (mQ7 _).trans ?_); rfl) | ((with_reducible refine (mA8 _).trans ?_); rfl) | ((with_reducible refine (mC8 _).trans ?_); rfl) | ((with_reducible refine (mAa _).trans ?_); rfl) | ((with_reducible refine (mCa _).trans ?_); rfl) | ((with_reducible refine (mPc _).trans ?_); rfl) | ((with_reducible refine (mQc _).trans ?_); rfl) | rfl)) | ((with_reducible refine go_l (x := ?_) (l := ?_) (c := ?_) ?_ ?_); rotate_left 3; (first | ((with_reducible refine (mA0 _).trans ?_); rfl) | ((with_reducible refine (mC0 _).trans ?_); rfl) | ((with_reducible refine (mC1 _).trans ?_); rfl) | ((with_reducible refine (mC2 _).trans ?_); rfl) | ((with_reducible refine (mA _).trans ?_); rfl) | ((with_reducible refine (mC _).trans ?_); rfl) | ((with_reducible refine (mA5 _).trans ?_); rfl) | ((with_reducible refine (mC5 _).trans ?_); rfl) | ((with_reducible refine (mP7 _).trans ?_); rfl) | ((with_reducible refine (mQ7 _).trans ?_); rfl) | ((with_reducible refine (mA8 _).trans ?_); rfl) | ((with_reducible refine (mC8 _).trans ?_); rfl) | ((with_reducible refine (mAa _).trans ?_); rfl) | ((with_reducible refine (mCa _).trans ?_); rfl) | ((with_reducible refine (mPc _).trans ?_); rfl) | ((with_reducible refine (mQc _).trans ?_); rfl) | rfl)) | ((with_reducible refine go_p (x := ?_) ?_ ?_); rotate_left 1; (first | ((with_reducible refine (mA0 _).trans ?_); rfl) | ((with_reducible refine (mC0 _).trans ?_); rfl) | ((with_reducible refine (mC1 _).trans ?_); rfl) | ((with_reducible refine (mC2 _).trans ?_); rfl) | ((with_reducible refine (mA _).trans ?_); rfl) | ((with_reducible refine (mC _).trans ?_); rfl) | ((with_reducible refine (mA5 _).trans ?_); rfl) | ((with_reducible refine (mC5 _).trans ?_); rfl) | ((with_reducible refine (mP7 _).trans ?_); rfl) | ((with_reducible refine (mQ7 _).trans ?_); rfl) | ((with_reducible refine (mA8 _).trans ?_); rfl) | ((with_reducible refine (mC8 _).trans ?_); rfl) | ((with_reducible refine (mAa _).trans ?_); rfl) | ((with_reducible refine (mCa _).trans ?_); rfl) | ((with_reducible refine (mPc _).trans ?_); rfl) | ((with_reducible refine (mQc _).trans ?_); rfl) | rfl)) | ((with_reducible refine go_halst hH5 ?_ ?_ ?_); rfl; rfl) | (with_reducible refine go_halN hH5 ?_) | ((with_reducible refine go_halst hH7 ?_ ?_ ?_); rfl; rfl) | (with_reducible refine go_halN hH7 ?_) | ((with_reducible refine go_halst hHa ?_ ?_ ?_); rfl; rfl) | (with_reducible refine go_halN hHa ?_) | ((with_reducible refine go_halst hHc ?_ ?_ ?_); rfl; rfl) | (with_reducible refine go_halN hHc ?_) | ((with_reducible refine go_t ?_ ?_); (show _ = true; rfl)) | ((with_reducible refine go_f ?_ ?_); (show _ = false; rfl)) | (with_reducible refine go_ne ?_) | (with_reducible refine go_eq ?_) | (with_reducible refine go_fad ?_) | (with_reducible refine go_nil ?_))
    exact fin _
end Go.Proofs.Ytoeoolnkndkefaa.Sh
/- Color: what Apply and Undo need of a list without errors. -/
set_option linter.unusedVariables false
set_option linter.unusedSimpArgs false
namespace Go.Proofs.Ytoeoolnkndkefaa.Sh
open Go.Proofs.Ytoeoolnkndkefaa.FW
theorem err3_zero {most : Int} {es : List Pr} (h : err3 most es = 0) : ∃ e0 e1 e2 r, es = e0 :: e1 :: e2 :: r ∧ rq e1 e0 = true ∧ rq e2 e0 = true ∧ okp most e0.xs = true ∧ okp most e1.xs = true ∧ okp most e2.xs = true := by
  match es, h with
  | e0 :: e1 :: e2 :: r, h =>
    refine ⟨e0, e1, e2, r, rfl, ?_⟩
    simp only [err3] at h
    cases h1 : [e0, e1, e2].all (fun e => rq e e0) with
    | false => rw [h1] at h; exact absurd (show (1 : Int) = 0 from h) (by decide)
    | true =>
      cases h2 : [e0, e1, e2].all (fun e => okp most e.xs) with
      | false => rw [h1, h2] at h; exact absurd (show (2 : Int) = 0 from h) (by decide)
      | true =>
        simp only [List.all_cons, List.all_nil, Bool.and_true, Bool.and_eq_true] at h1 h2
        obtain ⟨_, r1, r2⟩ := h1
        obtain ⟨k0, k1, k2⟩ := h2
        exact ⟨by simpa [rq] using r1, by simpa [rq] using r2, k0, k1, k2⟩
theorem errv_zero {t most : Int} {es : List Pr} (h : errv t es most = 0) : kn t = true ∧ es.all pvE = true ∧ ((t == 0) = false → err3 most es = 0) := by
  unfold errv at h
  cases h1 : kn t with
  | false => rw [h1] at h; exact absurd (show (3 : Int) = 0 from h) (by decide)
  | true =>
    cases h2 : es.all pvE with
    | false => rw [h1, h2] at h; exact absurd (show (1 : Int) = 0 from h) (by decide)
    | true =>
      refine ⟨rfl, rfl, fun h3 => ?_⟩
      rw [h1, h2, h3] at h
      exact h
theorem pv_len {e : Pr} (h : pvE e = true) : ((e.xs.length : Nat) : Int) = ra e.x0 e.y0 e.x1 e.y1 := by
  unfold pvE pv at h
  simp only [Bool.and_eq_true, beq_iff_eq] at h
  exact h.2.2
theorem rq_ra {e f : Pr} (h : rq e f = true) : e.x0 = f.x0 ∧ e.y0 = f.y0 ∧ e.x1 = f.x1 ∧ e.y1 = f.y1 := by
  simp only [rq, Bool.and_eq_true, beq_iff_eq, true_and] at h
  exact ⟨h.1.1.1, h.1.1.2, h.1.2, h.2⟩
theorem len3 {t most : Int} {es : List Pr} (h : errv t es most = 0) (ht : (t == 0) = false) : 3 ≤ es.length ∧ ∃ n, ∀ e ∈ es.take 3, e.xs.length = n := by
  obtain ⟨_, hv, h3⟩ := errv_zero h
  obtain ⟨e0, e1, e2, r, rfl, r1, r2, _⟩ := err3_zero (h3 ht)
  refine ⟨by simp, e0.xs.length, fun e he => ?_⟩
  rw [List.all_eq_true] at hv
  have v0 := pv_len (hv e0 (by simp))
  have v1 := pv_len (hv e1 (by simp))
  have v2 := pv_len (hv e2 (by simp))
  obtain ⟨a0, a1, a2, a3⟩ := rq_ra r1
  obtain ⟨b0, b1, b2, b3⟩ := rq_ra r2
  rw [a0, a1, a2, a3] at v1
  rw [b0, b1, b2, b3] at v2
  simp only [List.take_succ_cons, List.take_zero, List.mem_cons, List.not_mem_nil, or_false] at he
  rcases he with rfl | rfl | rfl <;> omega
theorem okp_of {most : Int} (h0 : 0 ≤ most) (h1 : most ≤ 9223372036854775807) {xs : List Int} (h : okp most xs = true) (i : Nat) : -most ≤ xs.getD i 0 ∧ xs.getD i 0 ≤ most := by
  rw [List.getD_eq_getElem?_getD]
  cases hg : xs[i]? with
  | none => simp only [Option.getD_none]; omega
  | some v =>
    have hm := List.mem_of_getElem? hg
    unfold okp at h
    rw [List.all_eq_true] at h
    have := h v hm
    rw [w64 (by omega) (by omega)] at this
    simp only [Bool.and_eq_true, Bool.not_eq_true', decide_eq_false_iff_not] at this
    simp only [Option.getD_some]; omega
/-- Lists of planes that came in. -/
theorem planes_of {H : Heap} : ∀ (es : List (List Value)), (∀ e ∈ es, Shp dPlane H e) → ∃ ps : List Pr, ps.length = es.length ∧ es.flatten = cellsOf ps ∧ ∀ p ∈ ps, Shows H p.q (ints p.xs) := by
  intro es
  induction es with
  | nil => intro _; exact ⟨[], rfl, rfl, fun p hp => by cases hp⟩
  | cons e es ih =>
    intro h
    obtain ⟨ps, h1, h2, h3⟩ := ih fun x hx => h x (List.mem_cons_of_mem _ hx)
    obtain ⟨x0, y0, x1, y1, q, xs, c, he, hS, _⟩ := plane_of (h e (by simp))
    refine ⟨⟨x0, y0, x1, y1, xs, q, c⟩ :: ps, by simp [h1], by rw [List.flatten_cons, h2, he]; rfl, fun p hp => ?_⟩
    rcases List.mem_cons.1 hp with rfl | hp
    · exact hS
    · exact h3 p hp
theorem fewp_of {es : List Pr} (h : fewp es = true) : ∀ e ∈ es, e.xs.length ≤ 400 := by
  intro e he
  unfold fewp at h
  rw [List.all_eq_true] at h
  exact of_decide_eq_true (h e he)
theorem trp_len {f : Int → Int → Int → Int × Int × Int} {t : Int} {l : List PL} (h : ∀ p ∈ l, p.2.2.2.2.length ≤ 400) : ∀ p ∈ trp f t l, p.2.2.2.2.length ≤ 400 := by
  intro p hp
  unfold trp at hp
  cases ht : t == 0 with
  | true => rw [ht] at hp; exact h p hp
  | false =>
    rw [ht] at hp
    simp only [cond_false] at hp
    unfold trq at hp
    split at hp
    · rename_i a0 a1 a2 a3 X b0 b1 b2 b3 Y c0 c1 c2 c3 Z r
      have hX := h (a0, a1, a2, a3, X) (by simp)
      simp only [List.mem_cons] at hp
      rcases hp with rfl | rfl | rfl | hp
      · simpa [tr3] using hX
      · simpa [tr3] using hX
      · simpa [tr3] using hX
      · exact h p (by simp [hp])
    · exact h p hp
theorem Apply_ok {k : Nat} (hk : 500 < k) {t : Int} {H : Heap} {q : Option Addr} {es : List Pr} (c : Nat) (hP : Pls H q es) (hl : es.length ≤ 6) (hx : ∀ e ∈ es, e.xs.length ≤ 400) (hC : CapOk q es.length c) (he : errv t es 1048576 = 0) : ∃ N H' q2 c2 outs, (∀ (R : Type) (K : Option Addr → Nat → Nat → Int → Heap → Option R), color_Apply k t q es.length c H K = K q2 es.length c2 0 H') ∧ Outs N H' q2 es.length c2 outs ∧ outs.map Pr.pl = trp (fwd t) t (es.map Pr.pl) ∧ Old H.length H H' := by
  obtain ⟨J, e1⟩ := check_eq hk t 1048576 c (by omega) (by omega) hP hx hC
  obtain ⟨H', q2, c2, outs, e2, r1, r2, r3⟩ := change_v35_eq hk t c (hP.app (J := J)) hl hx (len3 he)
  refine ⟨_, H', q2, c2, outs, fun R K => ?_, r1, r2, (Old.app H J).trans (r3.mono (by simp))⟩
  unfold color_Apply color_Apply_b
  rw [he] at e1
  repeat (first | (with_reducible refine (e1 _ _).trans ?_) | (with_reducible refine (e2 _ _).trans ?_) | ((with_reducible refine go_ip (x := ?_) ?_ ?_); rotate_left 1; (first | ((with_reducible refine (hcell_new _ _ _).trans ?_); rfl) | rfl)) | ((with_reducible refine go_bp (x := ?_) ?_ ?_); rotate_left 1; (first | ((with_reducible refine (hcell_new _ _ _).trans ?_); rfl) | rfl)) | ((with_reducible refine go_lp (x := ?_) (l := ?_) (c := ?_) ?_ ?_); rotate_left 3; (first | ((with_reducible refine (hcell_new _ _ _).trans ?_); rfl) | rfl)) | ((with_reducible refine go_pp (x := ?_) ?_ ?_); rotate_left 1; (first | ((with_reducible refine (hcell_new _ _ _).trans ?_); rfl) | rfl)) | ((with_reducible refine go_i (x := ?_) ?_ ?_); rotate_left 1; (first | ((with_reducible refine (hcell_new _ _ _).trans ?_); rfl) | rfl)) | ((with_reducible refine go_b (x := ?_) ?_ ?_); rotate_left 1; (first | ((with_reducible refine (hcell_new _ _ _).trans ?_); rfl) | rfl)) | ((with_reducible refine go_l (x := ?_) (l := ?_) (c := ?_) ?_ ?_); rotate_left 3; (first | ((with_reducible refine (hcell_new _ _ _).trans ?_); rfl) | rfl)) | ((with_reducible refine go_p (x := ?_) ?_ ?_); rotate_left 1; (first | ((with_reducible refine (hcell_new _ _ _).trans ?_); rfl) | rfl)) | ((with_reducible refine go_halst rfl ?_ ?_ ?_); rfl; rfl) | (with_reducible refine go_halN rfl ?_) | ((with_reducible refine go_t ?_ ?_); (show _ = true; rfl)) | ((with_reducible refine go_f ?_ ?_); (show _ = false; rfl)) | (with_reducible refine go_ne ?_) | (with_reducible refine go_eq ?_) | (with_reducible refine go_fad ?_) | (with_reducible refine go_nil ?_))
  rfl
theorem Apply_bad {k : Nat} (hk : 500 < k) {t : Int} {H : Heap} {q : Option Addr} {es : List Pr} (c : Nat) (hP : Pls H q es) (hl : es.length ≤ 6) (hx : ∀ e ∈ es, e.xs.length ≤ 400) (hC : CapOk q es.length c) (he : errv t es 1048576 ≠ 0) : ∃ J, ∀ (R : Type) (K : Option Addr → Nat → Nat → Int → Heap → Option R), color_Apply k t q es.length c H K = K none 0 0 (errv t es 1048576) (H ++ J) := by
  obtain ⟨J, e1⟩ := check_eq hk t 1048576 c (by omega) (by omega) hP hx hC
  refine ⟨J, fun R K => ?_⟩
  unfold color_Apply color_Apply_b
  refine (e1 _ _).trans ?_
  exact go_t (by simpa using he) rfl
end Go.Proofs.Ytoeoolnkndkefaa.Sh
/- Color: the reference's transforms of a pixel; what the transforms are in plain numbers. -/
set_option linter.unusedVariables false
set_option linter.unusedSimpArgs false
namespace Go.Proofs.Ytoeoolnkndkefaa.Sh
open Go.Proofs.Ytoeoolnkndkefaa.FW
theorem W_range (n : Int) : -9223372036854775808 ≤ W n ∧ W n ≤ 9223372036854775807 := by
  unfold W
  rw [IntKind.wrap_i64]
  omega
theorem fd (n : Int) {d : Int} (hd : 0 ≤ d) : Int.fdiv n d = n / d := Int.fdiv_eq_ediv_of_nonneg n hd
theorem floor_eq {R : Type} {n d : Int} (h0 : -9223372036854775808 ≤ n) (h1 : n ≤ 9223372036854775807) (hd : d = 2 ∨ d = 4) (K : Int → Option R) : R01_FloorDiv n d K = K (Int.fdiv n d) := by
  unfold R01_FloorDiv R01_FloorDiv_b hbin
  have e1 : decide (d < 1) = false := decide_eq_false (by omega)
  simp only [e1, cond_false]
  rw [if_neg (by omega), if_neg (by omega), fd n (by omega), Int.tdiv_eq_ediv, Int.tmod_eq_emod]
  rcases hd with rfl | rfl
  · by_cases c : 0 ≤ n ∨ (2 : Int) ∣ n
    · rw [if_pos c, if_pos c]
      have e2 : decide (n % 2 - ((0 : Nat) : Int) < 0) = false := decide_eq_false (by omega)
      rw [w64 (n := n / 2 + 0) (by omega) (by omega)]
      simp only [e2, cond_false]
      congr 1; omega
    · rw [if_neg c, if_neg c]
      have e2 : decide (n % 2 - ((Int.natAbs 2 : Nat) : Int) < 0) = true := decide_eq_true (by omega)
      have e3 : Int.sign 2 = 1 := rfl
      rw [e3, w64 (n := n / 2 + 1) (by omega) (by omega)]
      simp only [e2, cond_true]
      rw [w64 (n := n / 2 + 1 - 1) (by omega) (by omega)]
      congr 1; omega
  · by_cases c : 0 ≤ n ∨ (4 : Int) ∣ n
    · rw [if_pos c, if_pos c]
      have e2 : decide (n % 4 - ((0 : Nat) : Int) < 0) = false := decide_eq_false (by omega)
      rw [w64 (n := n / 4 + 0) (by omega) (by omega)]
      simp only [e2, cond_false]
      congr 1; omega
    · rw [if_neg c, if_neg c]
      have e2 : decide (n % 4 - ((Int.natAbs 4 : Nat) : Int) < 0) = true := decide_eq_true (by omega)
      have e3 : Int.sign 4 = 1 := rfl
      rw [e3, w64 (n := n / 4 + 1) (by omega) (by omega)]
      simp only [e2, cond_true]
      rw [w64 (n := n / 4 + 1 - 1) (by omega) (by omega)]
      congr 1; omega
theorem ForwardR_eq {R : Type} (t a b c : Int) (K : Int → Int → Int → Option R) : R07_Forward t a b c K = K (fwd t a b c).1 (fwd t a b c).2.1 (fwd t a b c).2.2 := by
  unfold R07_Forward R07_Forward_b fwd
  cases t == 1 with
  | true => simp only [cond_true]; rw [floor_eq (W_range _).1 (W_range _).2 (.inr rfl)]
  | false =>
    cases t == 2 with
    | true => simp only [cond_true, cond_false]; rw [floor_eq (W_range _).1 (W_range _).2 (.inl rfl), floor_eq (W_range _).1 (W_range _).2 (.inl rfl)]
    | false => rfl
theorem InverseR_eq {R : Type} (t a b c : Int) (hb : -9223372036854775808 ≤ b ∧ b ≤ 9223372036854775807) (hc : -9223372036854775808 ≤ c ∧ c ≤ 9223372036854775807) (K : Int → Int → Int → Option R) : R07_Inverse t a b c K = K (inv t a b c).1 (inv t a b c).2.1 (inv t a b c).2.2 := by
  unfold R07_Inverse R07_Inverse_b inv
  cases t == 1 with
  | true => simp only [cond_true]; rw [floor_eq (W_range _).1 (W_range _).2 (.inr rfl)]
  | false =>
    cases t == 2 with
    | true => simp only [cond_true, cond_false]; rw [floor_eq hc.1 hc.2 (.inl rfl), floor_eq hb.1 hb.2 (.inl rfl)]
    | false => rfl
/-- The transforms, when nothing is cut off. -/
theorem fwd_rct {a b c m : Int} (hm : m ≤ 1000000000000000000) (ha : -m ≤ a ∧ a ≤ m) (hb : -m ≤ b ∧ b ≤ m) (hc : -m ≤ c ∧ c ≤ m) : fwd 1 a b c = ((a + 2 * b + c) / 4, c - b, a - b) := by
  unfold fwd
  simp only [beq_self_eq_true, cond_true, W]
  rw [w64 (n := 2 * b) (by omega) (by omega), w64 (n := a + 2 * b) (by omega) (by omega), w64 (n := a + 2 * b + c) (by omega) (by omega), w64 (n := c - b) (by omega) (by omega), w64 (n := a - b) (by omega) (by omega), fd _ (by omega)]
theorem fwd_ycc {a b c m : Int} (hm : m ≤ 1000000000000000000) (ha : -m ≤ a ∧ a ≤ m) (hb : -m ≤ b ∧ b ≤ m) (hc : -m ≤ c ∧ c ≤ m) : fwd 2 a b c = (c + (a - c) / 2 + (b - (c + (a - c) / 2)) / 2, a - c, b - (c + (a - c) / 2)) := by
  unfold fwd
  have : ((2 : Int) == 1) = false := rfl
  simp only [this, beq_self_eq_true, cond_true, cond_false, W]
  rw [w64 (n := a - c) (by omega) (by omega), fd _ (by omega), w64 (n := c + (a - c) / 2) (by omega) (by omega), w64 (n := b - (c + (a - c) / 2)) (by omega) (by omega), fd _ (by omega), w64 (by omega) (by omega)]
theorem inv_rct {a b c m : Int} (hm : m ≤ 1000000000000000000) (ha : -m ≤ a ∧ a ≤ m) (hb : -m ≤ b ∧ b ≤ m) (hc : -m ≤ c ∧ c ≤ m) : inv 1 a b c = (c + (a - (b + c) / 4), a - (b + c) / 4, b + (a - (b + c) / 4)) := by
  unfold inv
  simp only [beq_self_eq_true, cond_true, W]
  rw [w64 (n := b + c) (by omega) (by omega), fd _ (by omega), w64 (n := a - (b + c) / 4) (by omega) (by omega), w64 (n := c + (a - (b + c) / 4)) (by omega) (by omega), w64 (n := b + (a - (b + c) / 4)) (by omega) (by omega)]
theorem inv_ycc {a b c m : Int} (hm : m ≤ 1000000000000000000) (ha : -m ≤ a ∧ a ≤ m) (hb : -m ≤ b ∧ b ≤ m) (hc : -m ≤ c ∧ c ≤ m) : inv 2 a b c = (a - c / 2 - b / 2 + b, c + (a - c / 2), a - c / 2 - b / 2) := by
  unfold inv
  have : ((2 : Int) == 1) = false := rfl
  simp only [this, beq_self_eq_true, cond_true, cond_false, W]
  rw [fd c (by omega), fd b (by omega), w64 (n := a - c / 2) (by omega) (by omega), w64 (n := a - c / 2 - b / 2) (by omega) (by omega), w64 (n := a - c / 2 - b / 2 + b) (by omega) (by omega), w64 (n := c + (a - c / 2)) (by omega) (by omega)]
theorem fwd_no {t a b c : Int} (h1 : t ≠ 1) (h2 : t ≠ 2) : fwd t a b c = (a, b, c) := by
  unfold fwd
  have e1 : (t == 1) = false := by simpa using h1
  have e2 : (t == 2) = false := by simpa using h2
  rw [e1, e2]; rfl
theorem inv_no {t a b c : Int} (h1 : t ≠ 1) (h2 : t ≠ 2) : inv t a b c = (a, b, c) := by
  unfold inv
  have e1 : (t == 1) = false := by simpa using h1
  have e2 : (t == 2) = false := by simpa using h2
  rw [e1, e2]; rfl
/-- Each undoes the other. -/
theorem inv_fwd {t a b c m : Int} (hm : m ≤ 1000000000000000) (ha : -m ≤ a ∧ a ≤ m) (hb : -m ≤ b ∧ b ≤ m) (hc : -m ≤ c ∧ c ≤ m) : inv t (fwd t a b c).1 (fwd t a b c).2.1 (fwd t a b c).2.2 = (a, b, c) := by
  by_cases h1 : t = 1
  · subst h1
    rw [fwd_rct (m := m) (by omega) ha hb hc]
    dsimp only
    rw [inv_rct (m := 4 * m) (by omega) (by omega) (by omega) (by omega)]
    refine Prod.ext ?_ (Prod.ext ?_ ?_) <;> simp only <;> omega
  · by_cases h2 : t = 2
    · subst h2
      rw [fwd_ycc (m := m) (by omega) ha hb hc]
      dsimp only
      rw [inv_ycc (m := 16 * m) (by omega) (by omega) (by omega) (by omega)]
      refine Prod.ext ?_ (Prod.ext ?_ ?_) <;> simp only <;> omega
    · rw [fwd_no h1 h2, inv_no h1 h2]
theorem fwd_inv {t a b c m : Int} (hm : m ≤ 1000000000000000) (ha : -m ≤ a ∧ a ≤ m) (hb : -m ≤ b ∧ b ≤ m) (hc : -m ≤ c ∧ c ≤ m) : fwd t (inv t a b c).1 (inv t a b c).2.1 (inv t a b c).2.2 = (a, b, c) := by
  by_cases h1 : t = 1
  · subst h1
    rw [inv_rct (m := m) (by omega) ha hb hc]
    dsimp only
    rw [fwd_rct (m := 4 * m) (by omega) (by omega) (by omega) (by omega)]
    refine Prod.ext ?_ (Prod.ext ?_ ?_) <;> simp only <;> omega
  · by_cases h2 : t = 2
    · subst h2
      rw [inv_ycc (m := m) (by omega) ha hb hc]
      dsimp only
      rw [fwd_ycc (m := 16 * m) (by omega) (by omega) (by omega) (by omega)]
      refine Prod.ext ?_ (Prod.ext ?_ ?_) <;> simp only <;> omega
    · rw [inv_no h1 h2, fwd_no h1 h2]
theorem bounded_eq {R : Type} (a b c m : Int) (hm : 0 ≤ m ∧ m ≤ 1000000000000000000) (K : Bool → Option R) : L_bounded a b c m K = K (decide (-m ≤ a) && (decide (a ≤ m) && (decide (-m ≤ b) && (decide (b ≤ m) && (decide (-m ≤ c) && decide (c ≤ m)))))) := by
  unfold L_bounded L_bounded_b
  rw [w64 (n := 0 - m) (by omega) (by omega), show 0 - m = -m from by omega]
  cases decide (-m ≤ a) <;> cases decide (a ≤ m) <;> cases decide (-m ≤ b) <;> cases decide (b ≤ m) <;> cases decide (-m ≤ c) <;> rfl
end Go.Proofs.Ytoeoolnkndkefaa.Sh
/- Color: plain facts on lists of planes: the transforms undo each other. -/
set_option linter.unusedVariables false
set_option linter.unusedSimpArgs false
namespace Go.Proofs.Ytoeoolnkndkefaa.Sh
open Go.Proofs.Ytoeoolnkndkefaa.FW
def mkPr (p : PL) : Pr := ⟨p.1, p.2.1, p.2.2.1, p.2.2.2.1, p.2.2.2.2, none, 0⟩
theorem all_pl (es : List Pr) : ((es.map Pr.pl).map mkPr).all pvE = es.all pvE := by
  induction es with
  | nil => rfl
  | cons e es ih => rw [List.map_cons, List.map_cons, List.all_cons, List.all_cons, ih]; rfl
theorem errv_pl (t most : Int) (es : List Pr) : errv t es most = errv t ((es.map Pr.pl).map mkPr) most := by
  unfold errv
  rw [all_pl]
  have : err3 most es = err3 most ((es.map Pr.pl).map mkPr) := by
    match es with
    | [] => rfl
    | [_] => rfl
    | [_, _] => rfl
    | _ :: _ :: _ :: _ => rfl
  rw [this]
theorem okp_mk {most : Int} (h0 : 0 ≤ most) (h1 : most ≤ 9223372036854775807) {xs : List Int} (h : ∀ v ∈ xs, -most ≤ v ∧ v ≤ most) : okp most xs = true := by
  unfold okp
  rw [List.all_eq_true]
  intro v hv
  have := h v hv
  rw [w64 (by omega) (by omega)]
  simp only [Bool.and_eq_true, Bool.not_eq_true', decide_eq_false_iff_not]
  omega
theorem tr3_at (f : Int → Int → Int → Int × Int × Int) (X Y Z : List Int) (pr : Int × Int × Int → Int) {i : Nat} (h : i < X.length) : (tr3 f X Y Z pr).getD i 0 = pr (f (X.getD i 0) (Y.getD i 0) (Z.getD i 0)) := by
  rw [List.getD_eq_getElem?_getD]
  unfold tr3
  rw [List.getElem?_map, List.getElem?_range h]
  rfl
theorem tr3_mem {f : Int → Int → Int → Int × Int × Int} {X Y Z : List Int} {pr : Int × Int × Int → Int} {v : Int} (h : v ∈ tr3 f X Y Z pr) : ∃ i, i < X.length ∧ v = pr (f (X.getD i 0) (Y.getD i 0) (Z.getD i 0)) := by
  unfold tr3 at h
  obtain ⟨i, hi, rfl⟩ := List.mem_map.1 h
  exact ⟨i, List.mem_range.1 hi, rfl⟩
theorem tr3_back {f g : Int → Int → Int → Int × Int × Int} {X Y Z W : List Int} (pr : Int × Int × Int → Int) (hY : Y.length = X.length) (hZ : Z.length = X.length) (hW : W.length = X.length) (hpr : ∀ i, i < X.length → pr (X.getD i 0, Y.getD i 0, Z.getD i 0) = W.getD i 0) (h : ∀ i, i < X.length → g (f (X.getD i 0) (Y.getD i 0) (Z.getD i 0)).1 (f (X.getD i 0) (Y.getD i 0) (Z.getD i 0)).2.1 (f (X.getD i 0) (Y.getD i 0) (Z.getD i 0)).2.2 = (X.getD i 0, Y.getD i 0, Z.getD i 0)) : tr3 g (tr3 f X Y Z pr0) (tr3 f X Y Z pr1) (tr3 f X Y Z pr2) pr = W := by
  apply List.ext_getElem?
  intro i
  by_cases hi : i < X.length
  · have h1 : (tr3 g (tr3 f X Y Z pr0) (tr3 f X Y Z pr1) (tr3 f X Y Z pr2) pr)[i]? = some (pr (g ((tr3 f X Y Z pr0).getD i 0) ((tr3 f X Y Z pr1).getD i 0) ((tr3 f X Y Z pr2).getD i 0))) := by
      rw [show tr3 g (tr3 f X Y Z pr0) (tr3 f X Y Z pr1) (tr3 f X Y Z pr2) pr = (List.range (tr3 f X Y Z pr0).length).map fun t => pr (g ((tr3 f X Y Z pr0).getD t 0) ((tr3 f X Y Z pr1).getD t 0) ((tr3 f X Y Z pr2).getD t 0)) from rfl, List.getElem?_map, List.getElem?_range (by rw [tr3_len]; exact hi)]
      rfl
    rw [h1, tr3_at f X Y Z pr0 hi, tr3_at f X Y Z pr1 hi, tr3_at f X Y Z pr2 hi]
    have h2 : W[i]? = some (W.getD i 0) := by rw [List.getD_eq_getElem?_getD, List.getElem?_eq_getElem (by omega)]; rfl
    rw [h2, ← hpr i hi, ← h i hi]
  · rw [List.getElem?_eq_none (by rw [tr3_len, tr3_len]; omega), List.getElem?_eq_none (by omega)]
/-- A list without errors, from the third plane on. -/
structure Fine (most t : Int) (L : List PL) : Prop where
  k : kn t = true
  v : (L.map mkPr).all pvE = true
  r : (t == 0) = false → ∃ x0 y0 x1 y1 X Y Z r, L = (x0, y0, x1, y1, X) :: (x0, y0, x1, y1, Y) :: (x0, y0, x1, y1, Z) :: r ∧ Y.length = X.length ∧ Z.length = X.length ∧ (∀ i, -most ≤ X.getD i 0 ∧ X.getD i 0 ≤ most) ∧ (∀ i, -most ≤ Y.getD i 0 ∧ Y.getD i 0 ≤ most) ∧ ∀ i, -most ≤ Z.getD i 0 ∧ Z.getD i 0 ≤ most
theorem fine_of {most t : Int} (h0 : 0 ≤ most) (h1 : most ≤ 9223372036854775807) {es : List Pr} (h : errv t es most = 0) : Fine most t (es.map Pr.pl) := by
  obtain ⟨hk, hv, h3⟩ := errv_zero h
  refine ⟨hk, by rw [all_pl]; exact hv, fun ht => ?_⟩
  obtain ⟨_, n, hn⟩ := len3 h ht
  obtain ⟨e0, e1, e2, r, rfl, r1, r2, k0, k1, k2⟩ := err3_zero (h3 ht)
  obtain ⟨a0, a1, a2, a3⟩ := rq_ra r1
  obtain ⟨b0, b1, b2, b3⟩ := rq_ra r2
  have n0 := hn e0 (by simp)
  have n1 := hn e1 (by simp)
  have n2 := hn e2 (by simp)
  refine ⟨e0.x0, e0.y0, e0.x1, e0.y1, e0.xs, e1.xs, e2.xs, r.map Pr.pl, ?_, by omega, by omega, okp_of h0 h1 k0, okp_of h0 h1 k1, okp_of h0 h1 k2⟩
  simp only [List.map_cons, Pr.pl]
  rw [a0, a1, a2, a3, b0, b1, b2, b3]
/-- What errors a transformed list may have: none, or that a sample is too large. -/
theorem trp_err {most t : Int} (m2 : Int) (f : Int → Int → Int → Int × Int × Int) {es outs : List Pr} (h : Fine most t (es.map Pr.pl)) (hm : outs.map Pr.pl = trp f t (es.map Pr.pl)) :
    (errv t outs m2 = 0 ∨ errv t outs m2 = 2) ∧ (((t == 0) = false → ∀ x0 y0 x1 y1 X Y Z r, es.map Pr.pl = (x0, y0, x1, y1, X) :: (x0, y0, x1, y1, Y) :: (x0, y0, x1, y1, Z) :: r → okp m2 (tr3 f X Y Z pr0) = true ∧ okp m2 (tr3 f X Y Z pr1) = true ∧ okp m2 (tr3 f X Y Z pr2) = true) → errv t outs m2 = 0) := by
  obtain ⟨hk, hv, h3⟩ := h
  rw [errv_pl, hm]
  unfold errv trp
  cases ht : t == 0 with
  | true => rw [hk, show (bif true then es.map Pr.pl else trq f (es.map Pr.pl)) = es.map Pr.pl from rfl, hv]; exact ⟨.inl rfl, fun _ => rfl⟩
  | false =>
    obtain ⟨x0, y0, x1, y1, X, Y, Z, r, he, hY, hZ, _⟩ := h3 ht
    rw [show (bif false then es.map Pr.pl else trq f (es.map Pr.pl)) = trq f (es.map Pr.pl) from rfl, he]
    rw [he] at hv
    have hv2 : ((trq f ((x0, y0, x1, y1, X) :: (x0, y0, x1, y1, Y) :: (x0, y0, x1, y1, Z) :: r)).map mkPr).all pvE = true := by
      simp only [List.map_cons, List.all_cons, Bool.and_eq_true] at hv
      obtain ⟨v0, v1, v2, vr⟩ := hv
      simp only [trq, List.map_cons, List.all_cons, Bool.and_eq_true]
      refine ⟨?_, ?_, ?_, vr⟩
      · unfold pvE mkPr at *; simp only [tr3_len]; exact v0
      · unfold pvE mkPr at *; simp only [tr3_len]; exact v0
      · unfold pvE mkPr at *; simp only [tr3_len]; exact v0
    rw [hk, hv2]
    have hq : ∀ A B C : List Int, ([mkPr (x0, y0, x1, y1, A), mkPr (x0, y0, x1, y1, B), mkPr (x0, y0, x1, y1, C)].all fun e => rq e (mkPr (x0, y0, x1, y1, A))) = true := by
      intro A B C
      simp [rq, mkPr]
    have he3 : err3 m2 ((trq f ((x0, y0, x1, y1, X) :: (x0, y0, x1, y1, Y) :: (x0, y0, x1, y1, Z) :: r)).map mkPr) = bif !([mkPr (x0, y0, x1, y1, tr3 f X Y Z pr0), mkPr (x0, y0, x1, y1, tr3 f X Y Z pr1), mkPr (x0, y0, x1, y1, tr3 f X Y Z pr2)].all fun e => okp m2 e.xs) then 2 else 0 := by
      show (bif !([mkPr (x0, y0, x1, y1, tr3 f X Y Z pr0), mkPr (x0, y0, x1, y1, tr3 f X Y Z pr1), mkPr (x0, y0, x1, y1, tr3 f X Y Z pr2)].all fun e => rq e (mkPr (x0, y0, x1, y1, tr3 f X Y Z pr0))) then (1 : Int) else _) = _
      rw [hq]; rfl
    simp only [Bool.not_true, cond_false]
    rw [he3]
    refine ⟨?_, fun hok => ?_⟩
    · cases ([mkPr (x0, y0, x1, y1, tr3 f X Y Z pr0), mkPr (x0, y0, x1, y1, tr3 f X Y Z pr1), mkPr (x0, y0, x1, y1, tr3 f X Y Z pr2)].all fun e => okp m2 e.xs)
      · exact .inr rfl
      · exact .inl rfl
    · obtain ⟨o0, o1, o2⟩ := hok trivial x0 y0 x1 y1 X Y Z r rfl
      have : ([mkPr (x0, y0, x1, y1, tr3 f X Y Z pr0), mkPr (x0, y0, x1, y1, tr3 f X Y Z pr1), mkPr (x0, y0, x1, y1, tr3 f X Y Z pr2)].all fun e => okp m2 e.xs) = true := by
        simp only [List.all_cons, List.all_nil, Bool.and_true, Bool.and_eq_true]
        exact ⟨o0, o1, o2⟩
      rw [this]; rfl
theorem kn_cases {t : Int} (h : kn t = true) (h0 : (t == 0) = false) : t = 1 ∨ t = 2 := by
  unfold kn at h
  rw [h0] at h
  simp only [Bool.false_or, Bool.or_eq_true, beq_iff_eq] at h
  exact h
theorem fwd_bound {t a b c : Int} (ht : t = 1 ∨ t = 2) (ha : -1048576 ≤ a ∧ a ≤ 1048576) (hb : -1048576 ≤ b ∧ b ≤ 1048576) (hc : -1048576 ≤ c ∧ c ≤ 1048576) : (-281474976710656 ≤ (fwd t a b c).1 ∧ (fwd t a b c).1 ≤ 281474976710656) ∧ (-281474976710656 ≤ (fwd t a b c).2.1 ∧ (fwd t a b c).2.1 ≤ 281474976710656) ∧ (-281474976710656 ≤ (fwd t a b c).2.2 ∧ (fwd t a b c).2.2 ≤ 281474976710656) := by
  rcases ht with rfl | rfl
  · rw [fwd_rct (m := 1048576) (by omega) ha hb hc]; simp only; omega
  · rw [fwd_ycc (m := 1048576) (by omega) ha hb hc]; simp only; omega
/-- Undo takes what Apply returns. -/
theorem undo_of_apply {t : Int} {es outs : List Pr} (h : errv t es 1048576 = 0) (hm : outs.map Pr.pl = trp (fwd t) t (es.map Pr.pl)) : errv t outs 281474976710656 = 0 := by
  have hF := fine_of (by omega) (by omega) h
  refine (trp_err 281474976710656 (fwd t) hF hm).2 fun ht x0 y0 x1 y1 X Y Z r he => ?_
  obtain ⟨x0', y0', x1', y1', X', Y', Z', r', he', _, _, bX, bY, bZ⟩ := hF.r ht
  rw [he] at he'
  cases he'
  have hb := fun i => fwd_bound (kn_cases hF.k ht) (bX i) (bY i) (bZ i)
  refine ⟨okp_mk (by omega) (by omega) fun v hv => ?_, okp_mk (by omega) (by omega) fun v hv => ?_, okp_mk (by omega) (by omega) fun v hv => ?_⟩
  · obtain ⟨i, _, rfl⟩ := tr3_mem hv; exact (hb i).1
  · obtain ⟨i, _, rfl⟩ := tr3_mem hv; exact (hb i).2.1
  · obtain ⟨i, _, rfl⟩ := tr3_mem hv; exact (hb i).2.2
theorem trp_back {most t : Int} {f g : Int → Int → Int → Int × Int × Int} (hfg : ∀ a b c : Int, -most ≤ a ∧ a ≤ most → -most ≤ b ∧ b ≤ most → -most ≤ c ∧ c ≤ most → g (f a b c).1 (f a b c).2.1 (f a b c).2.2 = (a, b, c)) {L : List PL} (h : Fine most t L) : trp g t (trp f t L) = L := by
  unfold trp
  cases ht : t == 0 with
  | true => rfl
  | false =>
    obtain ⟨x0, y0, x1, y1, X, Y, Z, r, rfl, hY, hZ, bX, bY, bZ⟩ := h.r ht
    have hh : ∀ i, i < X.length → g (f (X.getD i 0) (Y.getD i 0) (Z.getD i 0)).1 (f (X.getD i 0) (Y.getD i 0) (Z.getD i 0)).2.1 (f (X.getD i 0) (Y.getD i 0) (Z.getD i 0)).2.2 = (X.getD i 0, Y.getD i 0, Z.getD i 0) := fun i _ => hfg _ _ _ (bX i) (bY i) (bZ i)
    simp only [cond_false, trq]
    rw [tr3_back (W := X) pr0 hY hZ rfl (fun _ _ => rfl) hh, tr3_back (W := Y) pr1 hY hZ hY (fun _ _ => rfl) hh, tr3_back (W := Z) pr2 hY hZ hZ (fun _ _ => rfl) hh]
theorem okp_mono {m1 m2 : Int} (h0 : 0 ≤ m1) (h1 : m1 ≤ m2) (h2 : m2 ≤ 9223372036854775807) {xs : List Int} (h : okp m1 xs = true) : okp m2 xs = true := by
  refine okp_mk (by omega) h2 fun v hv => ?_
  obtain ⟨i, hi, rfl⟩ := List.mem_iff_getElem.1 hv
  have := okp_of h0 (by omega) h i
  rw [List.getD_eq_getElem?_getD, List.getElem?_eq_getElem hi] at this
  simp only [Option.getD_some] at this
  omega
theorem errv_mono {m1 m2 t : Int} (h0 : 0 ≤ m1) (h1 : m1 ≤ m2) (h2 : m2 ≤ 9223372036854775807) {es : List Pr} (h : errv t es m1 = 0) : errv t es m2 = 0 := by
  obtain ⟨hk, hv, h3⟩ := errv_zero h
  unfold errv
  rw [hk, hv]
  cases ht : t == 0 with
  | true => rfl
  | false =>
    obtain ⟨e0, e1, e2, r, rfl, r1, r2, k0, k1, k2⟩ := err3_zero (h3 ht)
    have q1 : [e0, e1, e2].all (fun e => rq e e0) = true := by
      simp only [List.all_cons, List.all_nil, Bool.and_true, Bool.and_eq_true]
      exact ⟨by simp, by simpa [rq] using r1, by simpa [rq] using r2⟩
    have q2 : [e0, e1, e2].all (fun e => okp m2 e.xs) = true := by
      simp only [List.all_cons, List.all_nil, Bool.and_true, Bool.and_eq_true]
      exact ⟨okp_mono h0 h1 h2 k0, okp_mono h0 h1 h2 k1, okp_mono h0 h1 h2 k2⟩
    simp only [err3, q1, q2]
    rfl
end Go.Proofs.Ytoeoolnkndkefaa.Sh
/- Color: the parts of ColorRanges. -/
set_option linter.unusedVariables false
set_option linter.unusedSimpArgs false
namespace Go.Proofs.Ytoeoolnkndkefaa.Sh
open Go.Proofs.Ytoeoolnkndkefaa.FW
theorem lim_eq {d : Int} (hd : dp d = true) (s : Bool) : 1 ≤ p2 (d - 1) ∧ p2 (d - 1) ≤ 32768 ∧ lo d s = off d s - p2 (d - 1) ∧ hi d s = off d s + p2 (d - 1) - 1 ∧ (off d s = 0 ∨ off d s = p2 (d - 1)) ∧ p2 d = 2 * p2 (d - 1) := by
  have h := dp_of hd
  have e := p2_succ (n := d) (by omega)
  have := p2_pos (d - 1)
  have := p2_le (n := d) (by omega)
  refine ⟨by omega, by omega, ?_, ?_, ?_, e⟩
  · unfold lo off; rw [hd]; cases s <;> simp only [cond_true, cond_false] <;> omega
  · unfold hi off; rw [hd]; cases s <;> simp only [cond_true, cond_false] <;> omega
  · unfold off; cases s <;> simp
theorem clamp (v a b : Int) (h : a ≤ b) : a ≤ imn (imx v a) b ∧ imn (imx v a) b ≤ b ∧ (a ≤ v → v ≤ b → imn (imx v a) b = v) := by
  unfold imn imx
  split <;> split <;> (refine ⟨?_, ?_, fun h1 h2 => ?_⟩ <;> omega)
theorem unv_range {d : Int} (hd : dp d = true) (s : Bool) (v : Int) : lo d s ≤ unv d s v ∧ unv d s v ≤ hi d s := by
  obtain ⟨h1, h2, h3, h4, h5, _⟩ := lim_eq hd s
  unfold unv
  rw [show W (lo d s - off d s) = lo d s - off d s from w64 (by omega) (by omega), show W (hi d s - off d s) = hi d s - off d s from w64 (by omega) (by omega)]
  obtain ⟨c1, c2, _⟩ := clamp v (lo d s - off d s) (hi d s - off d s) (by omega)
  generalize imn (imx v (lo d s - off d s)) (hi d s - off d s) = w at *
  rw [show W (w + off d s) = w + off d s from w64 (by omega) (by omega)]
  omega
theorem sh_range {d : Int} (hd : dp d = true) (s : Bool) {v : Int} (hb : bad d s v = false) : -(p2 (d - 1)) ≤ W (v - off d s) ∧ W (v - off d s) ≤ p2 (d - 1) - 1 ∧ unv d s (W (v - off d s)) = v := by
  obtain ⟨h1, h2, h3, h4, h5, _⟩ := lim_eq hd s
  unfold bad at hb
  simp only [Bool.or_eq_false_iff, decide_eq_false_iff_not] at hb
  rw [show W (v - off d s) = v - off d s from w64 (by omega) (by omega)]
  refine ⟨by omega, by omega, ?_⟩
  unfold unv
  rw [show W (lo d s - off d s) = lo d s - off d s from w64 (by omega) (by omega), show W (hi d s - off d s) = hi d s - off d s from w64 (by omega) (by omega)]
  obtain ⟨_, _, c3⟩ := clamp (v - off d s) (lo d s - off d s) (hi d s - off d s) (by omega)
  rw [c3 (by omega) (by omega), show W (v - off d s + off d s) = v - off d s + off d s from w64 (by omega) (by omega)]
  omega
theorem fwd_small {t a b c P : Int} (ht : t = 1 ∨ t = 2) (hP : 1 ≤ P ∧ P ≤ 32768) (ha : -P ≤ a ∧ a ≤ P - 1) (hb : -P ≤ b ∧ b ≤ P - 1) (hc : -P ≤ c ∧ c ≤ P - 1) : (-(2 * P) ≤ (fwd t a b c).1 ∧ (fwd t a b c).1 ≤ 2 * P) ∧ (-(2 * P) ≤ (fwd t a b c).2.1 ∧ (fwd t a b c).2.1 ≤ 2 * P) ∧ (-(2 * P) ≤ (fwd t a b c).2.2 ∧ (fwd t a b c).2.2 ≤ 2 * P) := by
  rcases ht with rfl | rfl
  · rw [fwd_rct (m := P) (by omega) (by omega) (by omega) (by omega)]; simp only; omega
  · rw [fwd_ycc (m := P) (by omega) (by omega) (by omega) (by omega)]; simp only; omega
/-- A list that is being built of planes whose samples lie elsewhere. -/
structure Lst (N : Nat) (H : Heap) (q : Option Addr) (l c : Nat) (es : List Pr) : Prop where
  bld : Bld N 5 H q l c (cellsOf es)
  sh : ∀ e ∈ es, Shows H e.q (ints e.xs)
  dis : ∀ e ∈ es, e.xs = [] ∨ ∀ a b, e.q = some a → q = some b → a.block ≠ b.block
theorem Lst.nil (N : Nat) (H : Heap) : Lst N H none 0 0 [] := ⟨Bld.nil _ _ _, (fun e he => by cases he), (fun e he => by cases he)⟩
theorem Lst.keep {N : Nat} {H H' : Heap} {q : Option Addr} {l c : Nat} {es : List Pr} (h : Lst N H q l c es) (o : Old H.length H H') : Lst N H' q l c es :=
  ⟨h.bld.old o (Nat.le_refl _), fun e he => (h.sh e he).keep o, h.dis⟩
theorem Lst.len {N : Nat} {H : Heap} {q : Option Addr} {l c : Nat} {es : List Pr} (h : Lst N H q l c es) : l = es.length := by
  have := h.bld.shows.2
  rw [cellsOf_len] at this; omega
theorem Lst.pls {N : Nat} {H : Heap} {q : Option Addr} {l c : Nat} {es : List Pr} (h : Lst N H q l c es) : Pls H q es := ⟨h.bld.shows.1, h.sh⟩
theorem Lst.cap {N : Nat} {H : Heap} {q : Option Addr} {l c : Nat} {es : List Pr} (h : Lst N H q l c es) (hl : es.length ≤ 9223372036854775807) : CapOk q es.length c := by
  have hll := h.len
  rcases h.bld with ⟨rfl, rfl, rfl, h4⟩ | ⟨b, rfl, rfl, _⟩
  · exact .inl ⟨by omega, by omega⟩
  · exact .inr ⟨rfl, hl, rfl⟩
theorem Lst.add {N : Nat} {H : Heap} {q : Option Addr} {l c : Nat} {es : List Pr} (h : Lst N H q l c es) (hN : N ≤ H.length) (hl : l ≤ 6) (e : Pr) (hs : Shows H e.q (ints e.xs)) (hd : e.xs = [] ∨ ∀ a b, e.q = some a → q = some b → a.block ≠ b.block) :
    ∃ q' H', (∀ (R : Type) (K : Option Addr → Nat → Nat → Heap → Option R), happS 5 56 (H ++ [e.blk]) q l c (some ⟨H.length, 0, none⟩) 1 K = K q' (l + 1) unk H') ∧ Lst N H' q' (l + 1) unk (es ++ [e]) ∧ Old N H H' ∧ N ≤ H'.length := by
  obtain ⟨H', e', B, n, s⟩ := app5 h.bld hN (vs := [.int .i64 e.x0, .int .i64 e.y0, .int .i64 e.x1, .int .i64 e.y1, .slice e.q e.xs.length e.c]) rfl hl
  have hlow : ∀ i, i < N → hblk H' i = hblk H i := fun i hi => s i (by omega) fun a ha => by
    rcases h.bld with ⟨rfl, _⟩ | ⟨b2, rfl, _, h2, _⟩
    · cases ha
    · cases ha; simp only; omega
  have hkeep : ∀ f : Pr, Shows H f.q (ints f.xs) → (f.xs = [] ∨ ∀ a b, f.q = some a → q = some b → a.block ≠ b.block) → Shows H' f.q (ints f.xs) := fun f hf hdf => by
    rcases hf with hf | ⟨b, o, full, hq, ⟨Bk, h1, h2⟩, h3, h4⟩
    · exact .inl hf
    · rcases hdf with hx | hdf
      · exact .inl (by rw [hx]; rfl)
      · refine .inr ⟨b, o, full, hq, ⟨Bk, ?_, h2⟩, h3, h4⟩
        rw [s b (hblk_lt h1) fun a ha => fun hh => hdf _ _ hq ha hh.symm]
        exact h1
  have hlt : ∀ f : Pr, Shows H f.q (ints f.xs) → f.xs = [] ∨ ∀ a, f.q = some a → a.block ≠ H.length + 1 := fun f hf => by
    rcases hf with hf | ⟨b, o, full, hq, h1, _⟩
    · refine .inl ?_
      cases hx : f.xs with
      | nil => rfl
      | cons x xs => rw [hx] at hf; cases hf
    · refine .inr fun a ha => ?_
      rw [hq] at ha; cases ha; have := h1.lt; simp only; omega
  refine ⟨_, H', e', ⟨?_, fun f hf => ?_, fun f hf => ?_⟩, ⟨by omega, hlow⟩, by omega⟩
  · rw [cellsOf_append]; exact B
  · rcases List.mem_append.1 hf with hf | hf
    · exact hkeep f (h.sh f hf) (h.dis f hf)
    · simp only [List.mem_singleton] at hf; subst hf
      exact hkeep _ hs hd
  · have : f.xs = [] ∨ ∀ a, f.q = some a → a.block ≠ H.length + 1 := by
      rcases List.mem_append.1 hf with hf | hf
      · exact hlt f (h.sh f hf)
      · simp only [List.mem_singleton] at hf; subst hf
        exact hlt _ hs
    rcases this with h | h
    · exact .inl h
    · exact .inr fun a b ha hb => by cases hb; exact h a ha
theorem ranges_l3 (k : Nat) (t : Int) {bU : Nat} {qu : Option Addr} {xs : List Int} (cu : Nat) (hl : xs.length ≤ 400) (lo' hi' : Int) (pA pC pB : Option Addr) (q' : Option Addr) (l' c' : Nat) (ii : Int) {H : Heap} (hS : Shows H qu (ints xs)) (m4 : hcell H bU (0 + 4) = some (.slice qu xs.length cu)) (hx : ∀ i, i < xs.length → lo' ≤ xs.getD i 0 ∧ xs.getD i 0 ≤ hi') : ∀ (m n i : Nat), m < n → xs.length = i + m → ∀ (R : Type) (KE : Int → Option Addr → Option Addr → Int → Int → Option Addr → Nat → Nat → Int → Option Addr → Option R) (KR : Bool → Option R), L_ColorRanges_l3 k KE KR n t pA pC lo' hi' q' l' c' ii pB (some ⟨bU, 0, none⟩) (i : Int) H = KE t pA pC lo' hi' q' l' c' ii pB := by
  intro m
  induction m with
  | zero =>
    intro n i hn hi R KE KR
    obtain ⟨n, rfl⟩ : ∃ n', n = n' + 1 := ⟨n - 1, by omega⟩
    have ed : decide ((i : Int) < ((xs.length : Nat) : Int)) = false := decide_eq_false (by omega)
    unfold L_ColorRanges_l3 L_ColorRanges_l3_b
    repeat (first | (with_reducible refine (e0 _ _).trans ?_) | ((with_reducible refine go_ip (x := ?_) ?_ ?_); rotate_left 1; (first | ((with_reducible refine (hcell_new _ _ _).trans ?_); rfl) | exact m4 | rfl)) | ((with_reducible refine go_bp (x := ?_) ?_ ?_); rotate_left 1; (first | ((with_reducible refine (hcell_new _ _ _).trans ?_); rfl) | exact m4 | rfl)) | ((with_reducible refine go_lp (x := ?_) (l := ?_) (c := ?_) ?_ ?_); rotate_left 3; (first | ((with_reducible refine (hcell_new _ _ _).trans ?_); rfl) | exact m4 | rfl)) | ((with_reducible refine go_pp (x := ?_) ?_ ?_); rotate_left 1; (first | ((with_reducible refine (hcell_new _ _ _).trans ?_); rfl) | exact m4 | rfl)) | ((with_reducible refine go_i (x := ?_) ?_ ?_); rotate_left 1; (first | ((with_reducible refine (hcell_new _ _ _).trans ?_); rfl) | exact m4 | rfl)) | ((with_reducible refine go_b (x := ?_) ?_ ?_); rotate_left 1; (first | ((with_reducible refine (hcell_new _ _ _).trans ?_); rfl) | exact m4 | rfl)) | ((with_reducible refine go_l (x := ?_) (l := ?_) (c := ?_) ?_ ?_); rotate_left 3; (first | ((with_reducible refine (hcell_new _ _ _).trans ?_); rfl) | exact m4 | rfl)) | ((with_reducible refine go_p (x := ?_) ?_ ?_); rotate_left 1; (first | ((with_reducible refine (hcell_new _ _ _).trans ?_); rfl) | exact m4 | rfl)) | ((with_reducible refine go_halst rfl ?_ ?_ ?_); rfl; rfl) | (with_reducible refine go_halN rfl ?_) | (with_reducible refine go_t ed ?_) | (with_reducible refine go_f ed ?_) | ((with_reducible refine go_t ?_ ?_); (show _ = true; rfl)) | ((with_reducible refine go_f ?_ ?_); (show _ = false; rfl)) | (with_reducible refine go_ne ?_) | (with_reducible refine go_eq ?_) | (with_reducible refine go_fad ?_) | (with_reducible refine go_nil ?_))
    rfl
  | succ m ih =>
    intro n i hn hi R KE KR
    obtain ⟨n, rfl⟩ : ∃ n', n = n' + 1 := ⟨n - 1, by omega⟩
    have ed : decide ((i : Int) < ((xs.length : Nat) : Int)) = true := decide_eq_true (by omega)
    obtain ⟨p, e1, l1⟩ := int_at hS (i := i) (by omega)
    have hxi := hx i (by omega)
    have ea : decide (xs.getD i 0 < lo') = false := decide_eq_false (by omega)
    have eb : decide (xs.getD i 0 > hi') = false := decide_eq_false (by omega)
    have w := wnext (i := i) (l := xs.length) (by omega) (by omega)
    have e5 := ih n (i + 1) (by omega) (by omega) R KE KR
    rw [← w] at e5
    unfold L_ColorRanges_l3 L_ColorRanges_l3_b L_ColorRanges_p4 L_ColorRanges_p4_b
    dsimp only
    repeat (first | (with_reducible refine (e1 _ _).trans ?_) | (with_reducible refine (l1 _ _).trans ?_) | ((with_reducible refine go_ip (x := ?_) ?_ ?_); rotate_left 1; (first | ((with_reducible refine (hcell_new _ _ _).trans ?_); rfl) | exact m4 | rfl)) | ((with_reducible refine go_bp (x := ?_) ?_ ?_); rotate_left 1; (first | ((with_reducible refine (hcell_new _ _ _).trans ?_); rfl) | exact m4 | rfl)) | ((with_reducible refine go_lp (x := ?_) (l := ?_) (c := ?_) ?_ ?_); rotate_left 3; (first | ((with_reducible refine (hcell_new _ _ _).trans ?_); rfl) | exact m4 | rfl)) | ((with_reducible refine go_pp (x := ?_) ?_ ?_); rotate_left 1; (first | ((with_reducible refine (hcell_new _ _ _).trans ?_); rfl) | exact m4 | rfl)) | ((with_reducible refine go_i (x := ?_) ?_ ?_); rotate_left 1; (first | ((with_reducible refine (hcell_new _ _ _).trans ?_); rfl) | exact m4 | rfl)) | ((with_reducible refine go_b (x := ?_) ?_ ?_); rotate_left 1; (first | ((with_reducible refine (hcell_new _ _ _).trans ?_); rfl) | exact m4 | rfl)) | ((with_reducible refine go_l (x := ?_) (l := ?_) (c := ?_) ?_ ?_); rotate_left 3; (first | ((with_reducible refine (hcell_new _ _ _).trans ?_); rfl) | exact m4 | rfl)) | ((with_reducible refine go_p (x := ?_) ?_ ?_); rotate_left 1; (first | ((with_reducible refine (hcell_new _ _ _).trans ?_); rfl) | exact m4 | rfl)) | ((with_reducible refine go_halst rfl ?_ ?_ ?_); rfl; rfl) | (with_reducible refine go_halN rfl ?_) | (with_reducible refine go_t ed ?_) | (with_reducible refine go_f ed ?_) | (with_reducible refine go_t ea ?_) | (with_reducible refine go_f ea ?_) | (with_reducible refine go_t eb ?_) | (with_reducible refine go_f eb ?_) | ((with_reducible refine go_t ?_ ?_); (show _ = true; rfl)) | ((with_reducible refine go_f ?_ ?_); (show _ = false; rfl)) | (with_reducible refine go_ne ?_) | (with_reducible refine go_eq ?_) | (with_reducible refine go_fad ?_) | (with_reducible refine go_nil ?_))
    exact e5
theorem ranges_l7 (k : Nat) (hk : 400 < k) (t : Int) {q : Option Addr} {es : List Pr} (c : Nat) {bC : Nat} {d : Int} {s : Bool} {x y : Int} (hx : ∀ e ∈ es, e.xs.length ≤ 400) (hb : ∀ i (e : Pr), i < 3 → es[i]? = some e → okp (bnd t d) e.xs = true) (h3 : es.length = 3) : ∀ (m n i : Nat), m < n → 3 = i + m → ∀ (H : Heap), Pls H q es → Sees H bC (cmp4 d s x y) → ∃ J, ∀ (R : Type) (KE : Heap → Option R) (KR : Bool → Heap → Option R), L_ColorRanges_l7 k KE KR n t (some ⟨bC, 0, none⟩) q es.length c (i : Int) H = KE (H ++ J) := by
  intro m
  induction m with
  | zero =>
    intro n i hn hi H hP hC
    obtain ⟨n, rfl⟩ : ∃ n', n = n' + 1 := ⟨n - 1, by omega⟩
    refine ⟨[], fun R KE KR => ?_⟩
    have ed : decide ((i : Int) < 3) = false := decide_eq_false (by omega)
    rw [List.append_nil]
    simp only [L_ColorRanges_l7, L_ColorRanges_l7_b, ed, cond_false]
  | succ m ih =>
    intro n i hn hi H hP hC
    obtain ⟨n, rfl⟩ : ∃ n', n = n' + 1 := ⟨n - 1, by omega⟩
    have ed : decide ((i : Int) < 3) = true := decide_eq_true (by omega)
    obtain ⟨e, he, hd⟩ := get_of (es := es) (i := i) (m := m) (by omega)
    obtain ⟨b, o, e0, m0, m1, m2, m3, m4, hS⟩ := hP.at he
    obtain ⟨J1, e1⟩ := boundedP_eq k hk (bnd t d) e.x0 e.y0 e.x1 e.y1 e.c (hx e (List.mem_of_getElem? he)) hS
    obtain ⟨J2, e2⟩ := ih n (i + 1) (by omega) (by omega) (H ++ J1) hP.app (hC.old (Old.app _ _) hC.lt)
    have w := wnext (i := i) (l := 3) (by omega) (by omega)
    have mC := hC.cell
    unfold cmp4 at mC
    rw [hb i e (by omega) he] at e1
    have eB := fun R => Bound_eq (R := R) k t d
    refine ⟨J1 ++ J2, fun R KE KR => ?_⟩
    unfold L_ColorRanges_l7 L_ColorRanges_l7_b
    repeat (first | (with_reducible refine (e0 _ _).trans ?_) | (with_reducible refine (e1 _ _).trans ?_) | (with_reducible refine (eB _ _).trans ?_) | ((with_reducible refine go_ip (x := ?_) ?_ ?_); rotate_left 1; (first | ((with_reducible refine (mC _).trans ?_); rfl) | exact m0 | exact m1 | exact m2 | exact m3 | exact m4 | rfl)) | ((with_reducible refine go_bp (x := ?_) ?_ ?_); rotate_left 1; (first | ((with_reducible refine (mC _).trans ?_); rfl) | exact m0 | exact m1 | exact m2 | exact m3 | exact m4 | rfl)) | ((with_reducible refine go_lp (x := ?_) (l := ?_) (c := ?_) ?_ ?_); rotate_left 3; (first | ((with_reducible refine (mC _).trans ?_); rfl) | exact m0 | exact m1 | exact m2 | exact m3 | exact m4 | rfl)) | ((with_reducible refine go_pp (x := ?_) ?_ ?_); rotate_left 1; (first | ((with_reducible refine (mC _).trans ?_); rfl) | exact m0 | exact m1 | exact m2 | exact m3 | exact m4 | rfl)) | ((with_reducible refine go_i (x := ?_) ?_ ?_); rotate_left 1; (first | ((with_reducible refine (mC _).trans ?_); rfl) | exact m0 | exact m1 | exact m2 | exact m3 | exact m4 | rfl)) | ((with_reducible refine go_b (x := ?_) ?_ ?_); rotate_left 1; (first | ((with_reducible refine (mC _).trans ?_); rfl) | exact m0 | exact m1 | exact m2 | exact m3 | exact m4 | rfl)) | ((with_reducible refine go_l (x := ?_) (l := ?_) (c := ?_) ?_ ?_); rotate_left 3; (first | ((with_reducible refine (mC _).trans ?_); rfl) | exact m0 | exact m1 | exact m2 | exact m3 | exact m4 | rfl)) | ((with_reducible refine go_p (x := ?_) ?_ ?_); rotate_left 1; (first | ((with_reducible refine (mC _).trans ?_); rfl) | exact m0 | exact m1 | exact m2 | exact m3 | exact m4 | rfl)) | ((with_reducible refine go_halst rfl ?_ ?_ ?_); rfl; rfl) | (with_reducible refine go_halN rfl ?_) | (with_reducible refine go_t ed ?_) | (with_reducible refine go_f ed ?_) | ((with_reducible refine go_t ?_ ?_); (show _ = true; rfl)) | ((with_reducible refine go_f ?_ ?_); (show _ = false; rfl)) | (with_reducible refine go_ne ?_) | (with_reducible refine go_eq ?_) | (with_reducible refine go_fad ?_) | (with_reducible refine go_nil ?_))
    rw [w, e2, List.append_assoc]
end Go.Proofs.Ytoeoolnkndkefaa.Sh
/- Unshift undoes Shift, and the results are bounded. -/
set_option linter.unusedVariables false
set_option linter.unusedSimpArgs false
namespace Go.Proofs.Ytoeoolnkndkefaa.Sh
open Go.Proofs.Ytoeoolnkndkefaa.FW
theorem bif_z {R : Type} {e : Int} {A B r : Option R} (h1 : e = 0 → A = r) (h2 : e ≠ 0 → B = r) : (bif e == 0 then A else B) = r := by
  by_cases h : e = 0
  · rw [show (e == 0) = true from by simpa using h]; exact h1 h
  · rw [show (e == 0) = false from by simpa using h]; exact h2 h
/-- The shifted samples that ColorRanges gathers. -/
def Good (d : Int) (e : Pr) : Prop := dp d = true ∧ e.xs.length ≤ 400 ∧ ∀ i, -(p2 (d - 1)) ≤ e.xs.getD i 0 ∧ e.xs.getD i 0 ≤ p2 (d - 1) - 1
theorem getD_map {f : Int → Int} {xs : List Int} {i : Nat} (h : i < xs.length) : (xs.map f).getD i 0 = f (xs.getD i 0) := by
  rw [List.getD_eq_getElem?_getD, List.getD_eq_getElem?_getD, List.getElem?_map, List.getElem?_eq_getElem h]; rfl
theorem getD_mem {xs : List Int} {i : Nat} (h : i < xs.length) : xs.getD i 0 ∈ xs := by
  rw [List.getD_eq_getElem?_getD, List.getElem?_eq_getElem h]; exact List.getElem_mem h
theorem ranges_l0 (k : Nat) (hk : 500 < k) (t : Int) {N : Nat} {H0 : Heap} {bC bA : Nat} {es : List Pr} {d : Int} {s : Bool} {x y : Int} (hN : N = H0.length) (hP : Pls H0 (some ⟨bA, 0, none⟩) es) (hC0 : Sees H0 bC (cmp4 d s x y)) (h3 : es.length = 3) (hx : ∀ e ∈ es, e.xs.length ≤ 400) : ∀ (m n i : Nat), m < n → 3 = i + m → ∀ (H : Heap) (q' : Option Addr) (c' : Nat) (outs : List Pr), Old N H0 H → Lst N H q' outs.length c' outs → outs.length ≤ i → (∀ o ∈ outs, Good d o) →
    ∃ H' q2 c2 outs2, (∀ (R : Type) (KE : Int → Option Addr → Option Addr → Nat → Nat → Heap → Option R) (KR : Bool → Heap → Option R), L_ColorRanges_l0 k KE KR n t (some ⟨bA, 0, none⟩) (some ⟨bC, 0, none⟩) (lo d s) (hi d s) q' outs.length c' (i : Int) H = KE t (some ⟨bC, 0, none⟩) q2 outs2.length c2 H') ∧ Lst N H' q2 outs2.length c2 outs2 ∧ outs2.length ≤ 3 ∧ (∀ o ∈ outs2, Good d o) ∧ Old N H0 H' := by
  intro m
  induction m with
  | zero =>
    intro n i hn hi3 H q' c' outs hO hU hl hG
    obtain ⟨n, rfl⟩ : ∃ n', n = n' + 1 := ⟨n - 1, by omega⟩
    refine ⟨H, q', c', outs, fun R KE KR => ?_, hU, by omega, hG, hO⟩
    have ed : decide ((i : Int) < 3) = false := decide_eq_false (by omega)
    simp only [L_ColorRanges_l0, L_ColorRanges_l0_b, ed, cond_false]
  | succ m ih =>
    intro n i hn hi3 H q' c' outs hO hU hl hG
    obtain ⟨n, rfl⟩ : ∃ n', n = n' + 1 := ⟨n - 1, by omega⟩
    have ed : decide ((i : Int) < 3) = true := decide_eq_true (by omega)
    have w := wnext (i := i) (l := 3) (by omega) (by omega)
    obtain ⟨e, he, hd⟩ := get_of (es := es) (i := i) (m := m) (by omega)
    have hxe := hx e (List.mem_of_getElem? he)
    have hN' : N ≤ H.length := by have := hO.1; omega
    obtain ⟨b, o, e0, m0, m1, m2, m3, m4, hS⟩ := (hP.keep (hN ▸ hO)).at he
    rw [h3] at e0
    have e0' : ∀ (R : Type) (K : Option Addr → Option R), hidx (some ⟨bA, 0, none⟩) 3 (i : Int) 5 K = K (some ⟨b, o, none⟩) := e0
    have hCH : Sees H bC (cmp4 d s x y) := hC0.old hO (hN ▸ hC0.lt)
    have hbC : bC < N := hN ▸ hC0.lt
    -- the box
    obtain ⟨H1, hH1⟩ : ∃ X, X = H ++ [some (⟨[.int .i64 e.x0, .int .i64 e.y0, .int .i64 e.x1, .int .i64 e.y1, .slice e.q e.xs.length e.c], false, 0⟩ : Blk)] := ⟨_, rfl⟩
    have o1 : Old H.length H H1 := by rw [hH1]; exact Old.app _ _
    have n1 : H1.length = H.length + 1 := by rw [hH1]; simp
    have hB1 : Sees H1 H.length (pl5 e.x0 e.y0 e.x1 e.y1 e.q e.xs.length e.c) := ⟨_, by rw [hH1]; exact hblk_new _ _, rfl⟩
    have hS1 := hS.keep o1
    obtain ⟨qu, cu, H2, eU, sU, oU⟩ := Unshift_eq k hk hS1 hxe e.x0 e.y0 e.x1 e.y1 e.c d s x y
    generalize hu : usf e.x0 e.y0 e.x1 e.y1 e.xs d s = u at eU sU
    have LU := oU.1
    obtain ⟨H3, hH3⟩ : ∃ X, X = H2 ++ [some (⟨[.int .i64 (zz u.1 e.x0), .int .i64 (zz u.1 e.y0), .int .i64 (zz u.1 e.x1), .int .i64 (zz u.1 e.y1), .slice qu u.2.length cu], false, 0⟩ : Blk)] := ⟨_, rfl⟩
    have o3 : Old H2.length H2 H3 := by rw [hH3]; exact Old.app _ _
    have n3 : H3.length = H2.length + 1 := by rw [hH3]; simp
    have mU : hcell H3 H2.length (0 + 4) = some (.slice qu u.2.length cu) := by rw [hH3]; exact hcell_new _ _ _
    have sU3 := sU.keep o3
    have o13 : Old H1.length H1 H3 := oU.trans (o3.mono LU)
    have hS3 := hS1.keep o13
    -- the shift
    obtain ⟨qs, cs, H4, eS, sS, oS, fS⟩ := Shift_eq' k hk hS3 hxe e.x0 e.y0 e.x1 e.y1 e.c d s x y
    generalize hr : shf e.x0 e.y0 e.x1 e.y1 e.xs d s = r at eS sS
    have LS := oS.1
    obtain ⟨H5, hH5⟩ : ∃ X, X = H4 ++ [some (⟨[.int .i64 (zz r.1 e.x0), .int .i64 (zz r.1 e.y0), .int .i64 (zz r.1 e.x1), .int .i64 (zz r.1 e.y1), .slice qs r.2.length cs], false, 0⟩ : Blk)] := ⟨_, rfl⟩
    have o5 : Old H4.length H4 H5 := by rw [hH5]; exact Old.app _ _
    have n5 : H5.length = H4.length + 1 := by rw [hH5]; simp
    have o35 : Old H3.length H3 H5 := oS.trans (o5.mono LS)
    have o15 : Old H1.length H1 H5 := o13.trans (o35.mono o13.1)
    have o05 : Old H.length H H5 := o1.trans (o15.mono o1.1)
    have hB5 : Sees H5 H4.length (pl5 (zz r.1 e.x0) (zz r.1 e.y0) (zz r.1 e.x1) (zz r.1 e.y1) qs r.2.length cs) := ⟨_, by rw [hH5]; exact hblk_new _ _, rfl⟩
    have sS5 := sS.keep o5
    have hH1' := hH1
    -- cells
    have kC1 := (hCH.old o1 hCH.lt).cell
    have kB1 := hB1.cell
    have kB3 := (hB1.old o13 hB1.lt).cell
    have kC3 := (hCH.old (o1.trans (o13.mono o1.1)) hCH.lt).cell
    have kB5 := (hB1.old o15 hB1.lt).cell
    have kC5 := (hCH.old o05 hCH.lt).cell
    have kS5 := hB5.cell
    unfold cmp4 at kC1 kC3 kC5
    unfold pl5 at kB1 kB3 kB5 kS5
    have hl6 : outs.length ≤ 6 := by omega
    have hU5 := hU.keep o05
    -- the check of the unshifted samples
    have eL : u.1 = 0 → ∀ (R : Type) (KE : Int → Option Addr → Option Addr → Int → Int → Option Addr → Nat → Nat → Int → Option Addr → Option R) (KR : Bool → Option R), L_ColorRanges_l3 k KE KR k t (some ⟨bA, 0, none⟩) (some ⟨bC, 0, none⟩) (lo d s) (hi d s) q' outs.length c' (i : Int) (some ⟨H.length, 0, none⟩) (some ⟨H2.length, 0, none⟩) 0 H3 = KE t (some ⟨bA, 0, none⟩) (some ⟨bC, 0, none⟩) (lo d s) (hi d s) q' outs.length c' (i : Int) (some ⟨H.length, 0, none⟩) := by
      intro h0
      have hu' := hu
      unfold usf at hu'
      cases hv : pv e.x0 e.y0 e.x1 e.y1 e.xs.length with
      | false => rw [hv] at hu'; subst hu'; exact absurd (show (1 : Int) = 0 from h0) (by decide)
      | true =>
        cases hdd : dp d with
        | false => rw [hv, hdd] at hu'; subst hu'; exact absurd (show (12 : Int) = 0 from h0) (by decide)
        | true =>
          rw [hv, hdd] at hu'
          have hu2 : u.2 = e.xs.map (unv d s) := by rw [← hu']; rfl
          have hul : u.2.length ≤ 400 := by rw [hu2]; simpa using hxe
          have := ranges_l3 k t cu hul (lo d s) (hi d s) (some ⟨bA, 0, none⟩) (some ⟨bC, 0, none⟩) (some ⟨H.length, 0, none⟩) q' outs.length c' (i : Int) sU3 mU (fun j hj => by
            rw [hu2] at hj ⊢
            rw [getD_map (by simpa using hj)]
            exact unv_range hdd s _) u.2.length k 0 (by omega) (by omega)
          simp only [Int.natCast_zero] at this
          exact this
    unfold L_ColorRanges_l0 L_ColorRanges_l0_b L_ColorRanges_p1 L_ColorRanges_p1_b L_ColorRanges_p2 L_ColorRanges_p2_b
    dsimp only
    by_cases hr0 : r.1 = 0
    · -- the plane is shifted
      have hr' := hr
      unfold shf at hr'
      have hvd : pv e.x0 e.y0 e.x1 e.y1 e.xs.length = true ∧ dp d = true ∧ e.xs.any (bad d s) = false ∧ r.2 = e.xs.map fun v => W (v - off d s) := by
        cases hv : pv e.x0 e.y0 e.x1 e.y1 e.xs.length with
        | false => rw [hv] at hr'; subst hr'; exact absurd (show (1 : Int) = 0 from hr0) (by decide)
        | true =>
          cases hdd : dp d with
          | false => rw [hv, hdd] at hr'; subst hr'; exact absurd (show (12 : Int) = 0 from hr0) (by decide)
          | true =>
            cases hbd : e.xs.any (bad d s) with
            | true => rw [hv, hdd, hbd] at hr'; subst hr'; exact absurd (show (2 : Int) = 0 from hr0) (by decide)
            | false => rw [hv, hdd, hbd] at hr'; subst hr'; exact ⟨rfl, rfl, rfl, rfl⟩
      obtain ⟨hv, hdd, hbd, hr2⟩ := hvd
      have hnb : ∀ v ∈ e.xs, bad d s v = false := fun v hv => by
        rw [List.any_eq_false] at hbd; simpa using hbd v hv
      have hrl : r.2.length = e.xs.length := by rw [hr2]; simp
      have z0 : ∀ a, zz r.1 a = a := fun a => by rw [hr0]; rfl
      simp only [z0] at kS5 hB5
      obtain ⟨qv, cv, H6, eV, sV, oV⟩ := Unshift_eq k hk sS5 (by omega) e.x0 e.y0 e.x1 e.y1 cs d s x y
      have huv : usf e.x0 e.y0 e.x1 e.y1 r.2 d s = (0, e.xs) := by
        unfold usf
        rw [hrl, hv, hdd]
        simp only [cond_true]
        rw [hr2, List.map_map]
        congr 1
        conv => rhs; rw [← List.map_id e.xs]
        exact List.map_congr_left fun v hv' => (sh_range hdd s (hnb v hv')).2.2
      rw [huv] at eV sV
      have z1 : ∀ a, zz (((0 : Int), e.xs).1) a = a := fun a => rfl
      simp only [z1] at eV sV
      have LV := oV.1
      obtain ⟨H7, hH7⟩ : ∃ X, X = H6 ++ [some (⟨[.int .i64 e.x0, .int .i64 e.y0, .int .i64 e.x1, .int .i64 e.y1, .slice qv e.xs.length cv], false, 0⟩ : Blk)] := ⟨_, rfl⟩
      have o7 : Old H6.length H6 H7 := by rw [hH7]; exact Old.app _ _
      have o57 : Old H5.length H5 H7 := oV.trans (o7.mono LV)
      have hB7 : Sees H7 H6.length (pl5 e.x0 e.y0 e.x1 e.y1 qv e.xs.length cv) := ⟨_, by rw [hH7]; exact hblk_new _ _, rfl⟩
      obtain ⟨J8, e8⟩ := same_eq hk cv e.c (sV.keep o7) ((hS1.keep o15).keep o57) hxe e.x0 e.y0 e.x1 e.y1
      have o78 : Old H7.length H7 (H7 ++ J8) := Old.app _ _
      have o58 : Old H5.length H5 (H7 ++ J8) := o57.trans (o78.mono o57.1)
      obtain ⟨J9, e9⟩ := boundedP_eq k (by omega) (bnd 0 d) e.x0 e.y0 e.x1 e.y1 cs (xs := r.2) (by omega) (sS5.keep o58)
      have hok : okp (bnd 0 d) r.2 = true := by
        have hlim := lim_eq hdd s
        have hb0 : bnd 0 d = p2 (d - 1) := by unfold bnd; rw [hdd]; rfl
        rw [hb0]
        refine okp_mk (by omega) (by omega) fun v hv' => ?_
        rw [hr2] at hv'
        obtain ⟨w', hw', rfl⟩ := List.mem_map.1 hv'
        have := sh_range hdd s (hnb w' hw')
        omega
      rw [hok] at e9
      have eB := fun R => Bound_eq (R := R) k 0 d
      have o59 : Old H5.length H5 (H7 ++ J8 ++ J9) := o58.trans ((Old.app (H7 ++ J8) J9).mono o58.1)
      have hU9 := hU5.keep o59
      have o09 : Old H.length H (H7 ++ J8 ++ J9) := o05.trans (o59.mono o05.1)
      obtain ⟨q10, H10, e10, U10, o10, n10⟩ := hU9.add (Nat.le_trans hN' o09.1) hl6 ⟨e.x0, e.y0, e.x1, e.y1, r.2, qs, cs⟩ (sS5.keep o59) (by
        right
        intro a b' ha hb'
        have g1 := fS a ha
        have g2 : b'.block < H.length := hU.bld.below b' hb'
        have := o1.1; have := o13.1
        omega)
      have kB7 := hB7.cell
      have kB7' := ((hB1.old o15 hB1.lt).old o57 (by have := hB1.lt; have := o15.1; omega)).cell
      have kS8 := (hB5.old o58 hB5.lt).cell
      have kC8 := (hCH.old (o05.trans (o58.mono o05.1)) hCH.lt).cell
      have kS9 := (hB5.old o59 hB5.lt).cell
      unfold cmp4 at kC8
      unfold pl5 at kB7 kB7' kS8 kS9
      have hl10 : (outs ++ [(⟨e.x0, e.y0, e.x1, e.y1, r.2, qs, cs⟩ : Pr)]).length = outs.length + 1 := by simp
      obtain ⟨H', q2, c2, outs2, e11, r1, r2', r3, r4⟩ := ih n (i + 1) (by omega) (by omega) H10 q10 unk (outs ++ [⟨e.x0, e.y0, e.x1, e.y1, r.2, qs, cs⟩]) (hO.trans ((o09.mono hN').trans o10)) (by rw [hl10]; exact U10) (by rw [hl10]; omega) (fun o' ho' => by
        rcases List.mem_append.1 ho' with ho' | ho'
        · exact hG o' ho'
        · simp only [List.mem_singleton] at ho'; subst ho'
          refine ⟨hdd, by simp only; omega, fun j => ?_⟩
          simp only
          by_cases hj : j < e.xs.length
          · rw [hr2, getD_map hj]
            have := sh_range hdd s (hnb _ (getD_mem hj))
            omega
          · have hlim := lim_eq hdd s
            rw [List.getD_eq_getElem?_getD, List.getElem?_eq_none (by omega)]
            simp only [Option.getD_none]; omega)
      rw [hl10] at e11
      refine ⟨H', q2, c2, outs2, fun R KE KR => ?_, r1, r2', r3, r4⟩
      unfold L_ColorRanges_p5 L_ColorRanges_p5_b
      dsimp only
      rw [hr0] at eS
      simp only [z0, show ∀ a, zz 0 a = a from fun a => rfl] at eS hH5
      repeat (first | (with_reducible refine (e0' _ _).trans ?_) | (with_reducible refine (eU _ _).trans ?_) | ((with_reducible refine go_ip (x := ?_) ?_ ?_); rotate_left 1; (first | ((with_reducible refine (kC1 _).trans ?_); rfl) | ((with_reducible refine (kB1 _).trans ?_); rfl) | exact m0 | exact m1 | exact m2 | exact m3 | exact m4 | rfl)) | ((with_reducible refine go_bp (x := ?_) ?_ ?_); rotate_left 1; (first | ((with_reducible refine (kC1 _).trans ?_); rfl) | ((with_reducible refine (kB1 _).trans ?_); rfl) | exact m0 | exact m1 | exact m2 | exact m3 | exact m4 | rfl)) | ((with_reducible refine go_lp (x := ?_) (l := ?_) (c := ?_) ?_ ?_); rotate_left 3; (first | ((with_reducible refine (kC1 _).trans ?_); rfl) | ((with_reducible refine (kB1 _).trans ?_); rfl) | exact m0 | exact m1 | exact m2 | exact m3 | exact m4 | rfl)) | ((with_reducible refine go_pp (x := ?_) ?_ ?_); rotate_left 1; (first | ((with_reducible refine (kC1 _).trans ?_); rfl) | ((with_reducible refine (kB1 _).trans ?_); rfl) | exact m0 | exact m1 | exact m2 | exact m3 | exact m4 | rfl)) | ((with_reducible refine go_i (x := ?_) ?_ ?_); rotate_left 1; (first | ((with_reducible refine (kC1 _).trans ?_); rfl) | ((with_reducible refine (kB1 _).trans ?_); rfl) | exact m0 | exact m1 | exact m2 | exact m3 | exact m4 | rfl)) | ((with_reducible refine go_b (x := ?_) ?_ ?_); rotate_left 1; (first | ((with_reducible refine (kC1 _).trans ?_); rfl) | ((with_reducible refine (kB1 _).trans ?_); rfl) | exact m0 | exact m1 | exact m2 | exact m3 | exact m4 | rfl)) | ((with_reducible refine go_l (x := ?_) (l := ?_) (c := ?_) ?_ ?_); rotate_left 3; (first | ((with_reducible refine (kC1 _).trans ?_); rfl) | ((with_reducible refine (kB1 _).trans ?_); rfl) | exact m0 | exact m1 | exact m2 | exact m3 | exact m4 | rfl)) | ((with_reducible refine go_p (x := ?_) ?_ ?_); rotate_left 1; (first | ((with_reducible refine (kC1 _).trans ?_); rfl) | ((with_reducible refine (kB1 _).trans ?_); rfl) | exact m0 | exact m1 | exact m2 | exact m3 | exact m4 | rfl)) | ((with_reducible refine go_halst hH1 ?_ ?_ ?_); rfl; rfl) | (with_reducible refine go_halN hH1 ?_) | ((with_reducible refine go_halst hH3 ?_ ?_ ?_); rfl; rfl) | (with_reducible refine go_halN hH3 ?_) | (with_reducible refine go_t ed ?_) | (with_reducible refine go_f ed ?_) | ((with_reducible refine go_t ?_ ?_); (show _ = true; rfl)) | ((with_reducible refine go_f ?_ ?_); (show _ = false; rfl)) | (with_reducible refine go_ne ?_) | (with_reducible refine go_eq ?_) | (with_reducible refine go_fad ?_) | (with_reducible refine go_nil ?_))
      refine bif_z (fun hu0 => ?_) (fun _ => ?_)
      · refine (eL hu0 _ _ _).trans ?_
        repeat (first | (with_reducible refine (eS _ _).trans ?_) | (with_reducible refine (eV _ _).trans ?_) | (with_reducible refine (e8 _ _).trans ?_) | (with_reducible refine (eB _ _).trans ?_) | (with_reducible refine (e9 _ _).trans ?_) | (with_reducible refine (e10 _ _).trans ?_) | ((with_reducible refine go_ip (x := ?_) ?_ ?_); rotate_left 1; (first | ((with_reducible refine (kB3 _).trans ?_); rfl) | ((with_reducible refine (kC3 _).trans ?_); rfl) | ((with_reducible refine (kS5 _).trans ?_); rfl) | ((with_reducible refine (kC5 _).trans ?_); rfl) | ((with_reducible refine (kB7 _).trans ?_); rfl) | ((with_reducible refine (kB7' _).trans ?_); rfl) | ((with_reducible refine (kS8 _).trans ?_); rfl) | ((with_reducible refine (kC8 _).trans ?_); rfl) | ((with_reducible refine (kS9 _).trans ?_); rfl) | rfl)) | ((with_reducible refine go_bp (x := ?_) ?_ ?_); rotate_left 1; (first | ((with_reducible refine (kB3 _).trans ?_); rfl) | ((with_reducible refine (kC3 _).trans ?_); rfl) | ((with_reducible refine (kS5 _).trans ?_); rfl) | ((with_reducible refine (kC5 _).trans ?_); rfl) | ((with_reducible refine (kB7 _).trans ?_); rfl) | ((with_reducible refine (kB7' _).trans ?_); rfl) | ((with_reducible refine (kS8 _).trans ?_); rfl) | ((with_reducible refine (kC8 _).trans ?_); rfl) | ((with_reducible refine (kS9 _).trans ?_); rfl) | rfl)) | ((with_reducible refine go_lp (x := ?_) (l := ?_) (c := ?_) ?_ ?_); rotate_left 3; (first | ((with_reducible refine (kB3 _).trans ?_); rfl) | ((with_reducible refine (kC3 _).trans ?_); rfl) | ((with_reducible refine (kS5 _).trans ?_); rfl) | ((with_reducible refine (kC5 _).trans ?_); rfl) | ((with_reducible refine (kB7 _).trans ?_); rfl) | ((with_reducible refine (kB7' _).trans ?_); rfl) | ((with_reducible refine (kS8 _).trans ?_); rfl) | ((with_reducible refine (kC8 _).trans ?_); rfl) | ((with_reducible refine (kS9 _).trans ?_); rfl) | rfl)) | ((with_reducible refine go_pp (x := ?_) ?_ ?_); rotate_left 1; (first | ((with_reducible refine (kB3 _).trans ?_); rfl) | ((with_reducible refine (kC3 _).trans ?_); rfl) | ((with_reducible refine (kS5 _).trans ?_); rfl) | ((with_reducible refine (kC5 _).trans ?_); rfl) | ((with_reducible refine (kB7 _).trans ?_); rfl) | ((with_reducible refine (kB7' _).trans ?_); rfl) | ((with_reducible refine (kS8 _).trans ?_); rfl) | ((with_reducible refine (kC8 _).trans ?_); rfl) | ((with_reducible refine (kS9 _).trans ?_); rfl) | rfl)) | ((with_reducible refine go_i (x := ?_) ?_ ?_); rotate_left 1; (first | ((with_reducible refine (kB3 _).trans ?_); rfl) | ((with_reducible refine (kC3 _).trans ?_); rfl) | ((with_reducible refine (kS5 _).trans ?_); rfl) | ((with_reducible refine (kC5 _).trans ?_); rfl) | ((with_reducible refine (kB7 _).trans ?_); rfl) | ((with_reducible refine (kB7' _).trans ?_); rfl) | ((with_reducible refine (kS8 _).trans ?_); rfl) | ((with_reducible refine (kC8 _).trans ?_); rfl) | ((with_reducible refine (kS9 _).trans ?_); rfl) | rfl)) | ((with_reducible refine go_b (x := ?_) ?_ ?_); rotate_left 1; (first | ((with_reducible refine (kB3 _).trans ?_); rfl) | ((with_reducible refine (kC3 _).trans ?_); rfl) | ((with_reducible refine (kS5 _).trans ?_); rfl) | ((with_reducible refine (kC5 _).trans ?_); rfl) | ((with_reducible refine (kB7 _).trans ?_); rfl) | ((with_reducible refine (kB7' _).trans ?_); rfl) | ((with_reducible refine (kS8 _).trans ?_); rfl) | ((with_reducible refine (kC8 _).trans ?_); rfl) | ((with_reducible refine (kS9 _).trans ?_); rfl) | rfl)) | ((with_reducible refine go_l (x := ?_) (l := ?_) (c := ?_) ?_ ?_); rotate_left 3; (first | ((with_reducible refine (kB3 _).trans ?_); rfl) | ((with_reducible refine (kC3 _).trans ?_); rfl) | ((with_reducible refine (kS5 _).trans ?_); rfl) | ((with_reducible refine (kC5 _).trans ?_); rfl) | ((with_reducible refine (kB7 _).trans ?_); rfl) | ((with_reducible refine (kB7' _).trans ?_); rfl) | ((with_reducible refine (kS8 _).trans ?_); rfl) | ((with_reducible refine (kC8 _).trans ?_); rfl) | ((with_reducible refine (kS9 _).trans ?_); rfl) | rfl)) | ((with_reducible refine go_p (x := ?_) ?_ ?_); rotate_left 1; (first | ((with_reducible refine (kB3 _).trans ?_); rfl) | ((with_reducible refine (kC3 _).trans ?_); rfl) | ((with_reducible refine (kS5 _).trans ?_); rfl) | ((with_reducible refine (kC5 _).trans ?_); rfl) | ((with_reducible refine (kB7 _).trans ?_); rfl) | ((with_reducible refine (kB7' _).trans ?_); rfl) | ((with_reducible refine (kS8 _).trans ?_); rfl) | ((with_reducible refine (kC8 _).trans ?_); rfl) | ((with_reducible refine (kS9 _).trans ?_); rfl) | rfl)) | ((with_reducible refine go_halst hH5 ?_ ?_ ?_); rfl; rfl) | (with_reducible refine go_halN hH5 ?_) | ((with_reducible refine go_halst hH7 ?_ ?_ ?_); rfl; rfl) | (with_reducible refine go_halN hH7 ?_) | ((with_reducible refine go_halst rfl ?_ ?_ ?_); rfl; rfl) | (with_reducible refine go_halN rfl ?_) | ((with_reducible refine go_t ?_ ?_); (show _ = true; rfl)) | ((with_reducible refine go_f ?_ ?_); (show _ = false; rfl)) | (with_reducible refine go_ne ?_) | (with_reducible refine go_eq ?_) | (with_reducible refine go_fad ?_) | (with_reducible refine go_nil ?_))
        rw [w]
        exact e11 _ _ _
      · repeat (first | (with_reducible refine (eS _ _).trans ?_) | (with_reducible refine (eV _ _).trans ?_) | (with_reducible refine (e8 _ _).trans ?_) | (with_reducible refine (eB _ _).trans ?_) | (with_reducible refine (e9 _ _).trans ?_) | (with_reducible refine (e10 _ _).trans ?_) | ((with_reducible refine go_ip (x := ?_) ?_ ?_); rotate_left 1; (first | ((with_reducible refine (kB3 _).trans ?_); rfl) | ((with_reducible refine (kC3 _).trans ?_); rfl) | ((with_reducible refine (kS5 _).trans ?_); rfl) | ((with_reducible refine (kC5 _).trans ?_); rfl) | ((with_reducible refine (kB7 _).trans ?_); rfl) | ((with_reducible refine (kB7' _).trans ?_); rfl) | ((with_reducible refine (kS8 _).trans ?_); rfl) | ((with_reducible refine (kC8 _).trans ?_); rfl) | ((with_reducible refine (kS9 _).trans ?_); rfl) | rfl)) | ((with_reducible refine go_bp (x := ?_) ?_ ?_); rotate_left 1; (first | ((with_reducible refine (kB3 _).trans ?_); rfl) | ((with_reducible refine (kC3 _).trans ?_); rfl) | ((with_reducible refine (kS5 _).trans ?_); rfl) | ((with_reducible refine (kC5 _).trans ?_); rfl) | ((with_reducible refine (kB7 _).trans ?_); rfl) | ((with_reducible refine (kB7' _).trans ?_); rfl) | ((with_reducible refine (kS8 _).trans ?_); rfl) | ((with_reducible refine (kC8 _).trans ?_); rfl) | ((with_reducible refine (kS9 _).trans ?_); rfl) | rfl)) | ((with_reducible refine go_lp (x := ?_) (l := ?_) (c := ?_) ?_ ?_); rotate_left 3; (first | ((with_reducible refine (kB3 _).trans ?_); rfl) | ((with_reducible refine (kC3 _).trans ?_); rfl) | ((with_reducible refine (kS5 _).trans ?_); rfl) | ((with_reducible refine (kC5 _).trans ?_); rfl) | ((with_reducible refine (kB7 _).trans ?_); rfl) | ((with_reducible refine (kB7' _).trans ?_); rfl) | ((with_reducible refine (kS8 _).trans ?_); rfl) | ((with_reducible refine (kC8 _).trans ?_); rfl) | ((with_reducible refine (kS9 _).trans ?_); rfl) | rfl)) | ((with_reducible refine go_pp (x := ?_) ?_ ?_); rotate_left 1; (first | ((with_reducible refine (kB3 _).trans ?_); rfl) | ((with_reducible refine (kC3 _).trans ?_); rfl) | ((with_reducible refine (kS5 _).trans ?_); rfl) | ((with_reducible refine (kC5 _).trans ?_); rfl) | ((with_reducible refine (kB7 _).trans ?_); rfl) | ((with_reducible refine (kB7' _).trans ?_); rfl) | ((with_reducible refine (kS8 _).trans ?_); rfl) | ((with_reducible refine (kC8 _).trans ?_); rfl) | ((with_reducible refine (kS9 _).trans ?_); rfl) | rfl)) | ((with_reducible refine go_i (x := ?_) ?_ ?_); rotate_left 1; (first | ((with_reducible refine (kB3 _).trans ?_); rfl) | ((with_reducible refine (kC3 _).trans ?_); rfl) | ((with_reducible refine (kS5 _).trans ?_); rfl) | ((with_reducible refine (kC5 _).trans ?_); rfl) | ((with_reducible refine (kB7 _).trans ?_); rfl) | ((with_reducible refine (kB7' _).trans ?_); rfl) | ((with_reducible refine (kS8 _).trans ?_); rfl) | ((with_reducible refine (kC8 _).trans ?_); rfl) | ((with_reducible refine (kS9 _).trans ?_); rfl) | rfl)) | ((with_reducible refine go_b (x := ?_) ?_ ?_); rotate_left 1; (first | ((with_reducible refine (kB3 _).trans ?_); rfl) | ((with_reducible refine (kC3 _).trans ?_); rfl) | ((with_reducible refine (kS5 _).trans ?_); rfl) | ((with_reducible refine (kC5 _).trans ?_); rfl) | ((with_reducible refine (kB7 _).trans ?_); rfl) | ((with_reducible refine (kB7' _).trans ?_); rfl) | ((with_reducible refine (kS8 _).trans ?_); rfl) | ((with_reducible refine (kC8 _).trans ?_); rfl) | ((with_reducible refine (kS9 _).trans ?_); rfl) | rfl)) | ((with_reducible refine go_l (x := ?_) (l := ?_) (c := ?_) ?_ ?_); rotate_left 3; (first | ((with_reducible refine (kB3 _).trans ?_); rfl) | ((with_reducible refine (kC3 _).trans ?_); rfl) | ((with_reducible refine (kS5 _).trans ?_); rfl) | ((with_reducible refine (kC5 _).trans ?_); rfl) | ((with_reducible refine (kB7 _).trans ?_); rfl) | ((with_reducible refine (kB7' _).trans ?_); rfl) | ((with_reducible refine (kS8 _).trans ?_); rfl) | ((with_reducible refine (kC8 _).trans ?_); rfl) | ((with_reducible refine (kS9 _).trans ?_); rfl) | rfl)) | ((with_reducible refine go_p (x := ?_) ?_ ?_); rotate_left 1; (first | ((with_reducible refine (kB3 _).trans ?_); rfl) | ((with_reducible refine (kC3 _).trans ?_); rfl) | ((with_reducible refine (kS5 _).trans ?_); rfl) | ((with_reducible refine (kC5 _).trans ?_); rfl) | ((with_reducible refine (kB7 _).trans ?_); rfl) | ((with_reducible refine (kB7' _).trans ?_); rfl) | ((with_reducible refine (kS8 _).trans ?_); rfl) | ((with_reducible refine (kC8 _).trans ?_); rfl) | ((with_reducible refine (kS9 _).trans ?_); rfl) | rfl)) | ((with_reducible refine go_halst hH5 ?_ ?_ ?_); rfl; rfl) | (with_reducible refine go_halN hH5 ?_) | ((with_reducible refine go_halst hH7 ?_ ?_ ?_); rfl; rfl) | (with_reducible refine go_halN hH7 ?_) | ((with_reducible refine go_halst rfl ?_ ?_ ?_); rfl; rfl) | (with_reducible refine go_halN rfl ?_) | ((with_reducible refine go_t ?_ ?_); (show _ = true; rfl)) | ((with_reducible refine go_f ?_ ?_); (show _ = false; rfl)) | (with_reducible refine go_ne ?_) | (with_reducible refine go_eq ?_) | (with_reducible refine go_fad ?_) | (with_reducible refine go_nil ?_))
        rw [w]
        exact e11 _ _ _
    · have hc : (r.1 != 0) = true := by simpa using hr0
      obtain ⟨H', q2, c2, outs2, e11, r1, r2', r3, r4⟩ := ih n (i + 1) (by omega) (by omega) H5 q' c' outs (hO.trans (o05.mono hN')) hU5 (by omega) hG
      refine ⟨H', q2, c2, outs2, fun R KE KR => ?_, r1, r2', r3, r4⟩
      repeat (first | (with_reducible refine (e0' _ _).trans ?_) | (with_reducible refine (eU _ _).trans ?_) | ((with_reducible refine go_ip (x := ?_) ?_ ?_); rotate_left 1; (first | ((with_reducible refine (kC1 _).trans ?_); rfl) | ((with_reducible refine (kB1 _).trans ?_); rfl) | exact m0 | exact m1 | exact m2 | exact m3 | exact m4 | rfl)) | ((with_reducible refine go_bp (x := ?_) ?_ ?_); rotate_left 1; (first | ((with_reducible refine (kC1 _).trans ?_); rfl) | ((with_reducible refine (kB1 _).trans ?_); rfl) | exact m0 | exact m1 | exact m2 | exact m3 | exact m4 | rfl)) | ((with_reducible refine go_lp (x := ?_) (l := ?_) (c := ?_) ?_ ?_); rotate_left 3; (first | ((with_reducible refine (kC1 _).trans ?_); rfl) | ((with_reducible refine (kB1 _).trans ?_); rfl) | exact m0 | exact m1 | exact m2 | exact m3 | exact m4 | rfl)) | ((with_reducible refine go_pp (x := ?_) ?_ ?_); rotate_left 1; (first | ((with_reducible refine (kC1 _).trans ?_); rfl) | ((with_reducible refine (kB1 _).trans ?_); rfl) | exact m0 | exact m1 | exact m2 | exact m3 | exact m4 | rfl)) | ((with_reducible refine go_i (x := ?_) ?_ ?_); rotate_left 1; (first | ((with_reducible refine (kC1 _).trans ?_); rfl) | ((with_reducible refine (kB1 _).trans ?_); rfl) | exact m0 | exact m1 | exact m2 | exact m3 | exact m4 | rfl)) | ((with_reducible refine go_b (x := ?_) ?_ ?_); rotate_left 1; (first | ((with_reducible refine (kC1 _).trans ?_); rfl) | ((with_reducible refine (kB1 _).trans ?_); rfl) | exact m0 | exact m1 | exact m2 | exact m3 | exact m4 | rfl)) | ((with_reducible refine go_l (x := ?_) (l := ?_) (c := ?_) ?_ ?_); rotate_left 3; (first | ((with_reducible refine (kC1 _).trans ?_); rfl) | ((with_reducible refine (kB1 _).trans ?_); rfl) | exact m0 | exact m1 | exact m2 | exact m3 | exact m4 | rfl)) | ((with_reducible refine go_p (x := ?_) ?_ ?_); rotate_left 1; (first | ((with_reducible refine (kC1 _).trans ?_); rfl) | ((with_reducible refine (kB1 _).trans ?_); rfl) | exact m0 | exact m1 | exact m2 | exact m3 | exact m4 | rfl)) | ((with_reducible refine go_halst hH1 ?_ ?_ ?_); rfl; rfl) | (with_reducible refine go_halN hH1 ?_) | ((with_reducible refine go_halst hH3 ?_ ?_ ?_); rfl; rfl) | (with_reducible refine go_halN hH3 ?_) | (with_reducible refine go_t ed ?_) | (with_reducible refine go_f ed ?_) | ((with_reducible refine go_t ?_ ?_); (show _ = true; rfl)) | ((with_reducible refine go_f ?_ ?_); (show _ = false; rfl)) | (with_reducible refine go_ne ?_) | (with_reducible refine go_eq ?_) | (with_reducible refine go_fad ?_) | (with_reducible refine go_nil ?_))
      refine bif_z (fun hu0 => ?_) (fun _ => ?_)
      · refine (eL hu0 _ _ _).trans ?_
        repeat (first | (with_reducible refine (eS _ _).trans ?_) | ((with_reducible refine go_ip (x := ?_) ?_ ?_); rotate_left 1; (first | ((with_reducible refine (kB3 _).trans ?_); rfl) | ((with_reducible refine (kC3 _).trans ?_); rfl) | rfl)) | ((with_reducible refine go_bp (x := ?_) ?_ ?_); rotate_left 1; (first | ((with_reducible refine (kB3 _).trans ?_); rfl) | ((with_reducible refine (kC3 _).trans ?_); rfl) | rfl)) | ((with_reducible refine go_lp (x := ?_) (l := ?_) (c := ?_) ?_ ?_); rotate_left 3; (first | ((with_reducible refine (kB3 _).trans ?_); rfl) | ((with_reducible refine (kC3 _).trans ?_); rfl) | rfl)) | ((with_reducible refine go_pp (x := ?_) ?_ ?_); rotate_left 1; (first | ((with_reducible refine (kB3 _).trans ?_); rfl) | ((with_reducible refine (kC3 _).trans ?_); rfl) | rfl)) | ((with_reducible refine go_i (x := ?_) ?_ ?_); rotate_left 1; (first | ((with_reducible refine (kB3 _).trans ?_); rfl) | ((with_reducible refine (kC3 _).trans ?_); rfl) | rfl)) | ((with_reducible refine go_b (x := ?_) ?_ ?_); rotate_left 1; (first | ((with_reducible refine (kB3 _).trans ?_); rfl) | ((with_reducible refine (kC3 _).trans ?_); rfl) | rfl)) | ((with_reducible refine go_l (x := ?_) (l := ?_) (c := ?_) ?_ ?_); rotate_left 3; (first | ((with_reducible refine (kB3 _).trans ?_); rfl) | ((with_reducible refine (kC3 _).trans ?_); rfl) | rfl)) | ((with_reducible refine go_p (x := ?_) ?_ ?_); rotate_left 1; (first | ((with_reducible refine (kB3 _).trans ?_); rfl) | ((with_reducible refine (kC3 _).trans ?_); rfl) | rfl)) | ((with_reducible refine go_halst hH5 ?_ ?_ ?_); rfl; rfl) | (with_reducible refine go_halN hH5 ?_) | (with_reducible refine go_t hc ?_) | (with_reducible refine go_f hc ?_) | ((with_reducible refine go_t ?_ ?_); (show _ = true; rfl)) | ((with_reducible refine go_f ?_ ?_); (show _ = false; rfl)) | (with_reducible refine go_ne ?_) | (with_reducible refine go_eq ?_) | (with_reducible refine go_fad ?_) | (with_reducible refine go_nil ?_))
        rw [w]
        exact e11 _ _ _
      · repeat (first | (with_reducible refine (eS _ _).trans ?_) | ((with_reducible refine go_ip (x := ?_) ?_ ?_); rotate_left 1; (first | ((with_reducible refine (kB3 _).trans ?_); rfl) | ((with_reducible refine (kC3 _).trans ?_); rfl) | rfl)) | ((with_reducible refine go_bp (x := ?_) ?_ ?_); rotate_left 1; (first | ((with_reducible refine (kB3 _).trans ?_); rfl) | ((with_reducible refine (kC3 _).trans ?_); rfl) | rfl)) | ((with_reducible refine go_lp (x := ?_) (l := ?_) (c := ?_) ?_ ?_); rotate_left 3; (first | ((with_reducible refine (kB3 _).trans ?_); rfl) | ((with_reducible refine (kC3 _).trans ?_); rfl) | rfl)) | ((with_reducible refine go_pp (x := ?_) ?_ ?_); rotate_left 1; (first | ((with_reducible refine (kB3 _).trans ?_); rfl) | ((with_reducible refine (kC3 _).trans ?_); rfl) | rfl)) | ((with_reducible refine go_i (x := ?_) ?_ ?_); rotate_left 1; (first | ((with_reducible refine (kB3 _).trans ?_); rfl) | ((with_reducible refine (kC3 _).trans ?_); rfl) | rfl)) | ((with_reducible refine go_b (x := ?_) ?_ ?_); rotate_left 1; (first | ((with_reducible refine (kB3 _).trans ?_); rfl) | ((with_reducible refine (kC3 _).trans ?_); rfl) | rfl)) | ((with_reducible refine go_l (x := ?_) (l := ?_) (c := ?_) ?_ ?_); rotate_left 3; (first | ((with_reducible refine (kB3 _).trans ?_); rfl) | ((with_reducible refine (kC3 _).trans ?_); rfl) | rfl)) | ((with_reducible refine go_p (x := ?_) ?_ ?_); rotate_left 1; (first | ((with_reducible refine (kB3 _).trans ?_); rfl) | ((with_reducible refine (kC3 _).trans ?_); rfl) | rfl)) | ((with_reducible refine go_halst hH5 ?_ ?_ ?_); rfl; rfl) | (with_reducible refine go_halN hH5 ?_) | (with_reducible refine go_t hc ?_) | (with_reducible refine go_f hc ?_) | ((with_reducible refine go_t ?_ ?_); (show _ = true; rfl)) | ((with_reducible refine go_f ?_ ?_); (show _ = false; rfl)) | (with_reducible refine go_ne ?_) | (with_reducible refine go_eq ?_) | (with_reducible refine go_fad ?_) | (with_reducible refine go_nil ?_))
        rw [w]
        exact e11 _ _ _
theorem few_in {es : List Pr} (h : ∀ e ∈ es, e.xs.length ≤ 400) : fewp es = true := by
  unfold fewp; rw [List.all_eq_true]; exact fun e he => decide_eq_true (h e he)
theorem ranges (k : Nat) (hk : 1000 < k) (H : Heap) (us : List Value) (h : AllLies H [(.int .i64, false), (.pair dPlane (.pair dPlane (.pair dPlane .nil)), true), (dComp, true)] us) : L_ColorRanges_c Bool k us H asB = some true := by
  obtain ⟨t, _, rfl, _, h1⟩ := lies_int h
  obtain ⟨vs, _, rfl, hp, h2⟩ := lies_agg h1
  obtain ⟨ws, _, rfl, hc, h3⟩ := lies_agg h2
  cases lies_nil h3
  obtain ⟨va, _, rfl, ha, vb, _, rfl, hb, vc, vn, rfl, hcc, hnn⟩ := hp
  have hnn' : vn = [] := hnn
  subst hnn'
  obtain ⟨x0, y0, x1, y1, qa, xa, ca, rfl, hSa, _⟩ := plane_of ha
  obtain ⟨x2, y2, x3, y3, qb, xb, cb, rfl, hSb, _⟩ := plane_of hb
  obtain ⟨x4, y4, x5, y5, qc, xc, cc, rfl, hSc, _⟩ := plane_of hcc
  obtain ⟨d, s, x, y, rfl⟩ := comp_of hc
  show L_ColorRanges k t x0 y0 x1 y1 qa xa.length ca x2 y2 x3 y3 qb xb.length cb x4 y4 x5 y5 qc xc.length cc d s x y H (fun t H => asB (.bool t) H) = some true
  have fin : ∀ (H : Heap), L_exampleHoldsq (fun t => asB (.bool t) H) = some true := fun H => rfl
  obtain ⟨es, hes⟩ : ∃ es : List Pr, es = [⟨x0, y0, x1, y1, xa, qa, ca⟩, ⟨x2, y2, x3, y3, xb, qb, cb⟩, ⟨x4, y4, x5, y5, xc, qc, cc⟩] := ⟨_, rfl⟩
  have h3l : es.length = 3 := by rw [hes]; rfl
  obtain ⟨H1, hH1⟩ : ∃ X : Heap, X = H ++ [some ⟨[.int .i64 x0, .int .i64 y0, .int .i64 x1, .int .i64 y1, .slice qa xa.length ca, .int .i64 x2, .int .i64 y2, .int .i64 x3, .int .i64 y3, .slice qb xb.length cb, .int .i64 x4, .int .i64 y4, .int .i64 x5, .int .i64 y5, .slice qc xc.length cc], false, 0⟩] := ⟨_, rfl⟩
  obtain ⟨H2, hH2⟩ : ∃ X : Heap, X = H1 ++ [some ⟨[.int .i64 d, .bool s, .int .i64 x, .int .i64 y], false, 0⟩] := ⟨_, rfl⟩
  have o1 : Old H.length H H1 := by rw [hH1]; exact Old.app _ _
  have o2 : Old H1.length H1 H2 := by rw [hH2]; exact Old.app _ _
  have o12 : Old H.length H H2 := o1.trans (o2.mono o1.1)
  have hA1 : Sees H1 H.length (cellsOf es) := ⟨_, by rw [hH1]; exact hblk_new _ _, by rw [hes]; rfl⟩
  have hP : Pls H2 (some ⟨H.length, 0, none⟩) es := ⟨(hA1.old o2 hA1.lt).shows, fun e he => by
    rw [hes] at he
    simp only [List.mem_cons, List.not_mem_nil, or_false] at he
    rcases he with rfl | rfl | rfl
    · exact hSa.keep o12
    · exact hSb.keep o12
    · exact hSc.keep o12⟩
  have hC : Sees H2 H1.length (cmp4 d s x y) := ⟨_, by rw [hH2]; exact hblk_new _ _, rfl⟩
  obtain ⟨J3, e3⟩ := few_eq (k := k) 3 (by omega) (by omega) hP
  have hsl : ∀ (R : Type) (b : Nat) (K : Option Addr → Nat → Nat → Option R), hsla 5 3 (some ⟨b, 0, none⟩) none none none K = K (some ⟨b, 0, none⟩) 3 3 := fun R b K => by
    simp [hsla, hslc, unk]
    rfl
  rw [h3l] at e3
  unfold L_ColorRanges L_ColorRanges_b
  refine go_halN hH1 ?_
  refine go_halN hH2 ?_
  refine (hsl _ _ _).trans ?_
  refine (e3 _ _).trans ?_
  cases hf : fewp es && decide (3 ≤ 6) with
  | false => exact go_t rfl (fin _)
  | true =>
    refine go_f rfl ?_
    simp only [Bool.and_eq_true, decide_eq_true_eq] at hf
    have hx := fewp_of hf.1
    obtain ⟨J4, e4⟩ := Range_eq d s x y (H2 ++ J3)
    have hC3 : Sees (H2 ++ J3) H1.length (cmp4 d s x y) := hC.old (Old.app _ _) hC.lt
    have hC4 : Sees (H2 ++ J3 ++ J4) H1.length (cmp4 d s x y) := hC3.old (Old.app _ _) hC3.lt
    obtain ⟨H5, q5, c5, outs, e5, U5, l5, G5, o5⟩ := ranges_l0 k (by omega) t rfl (hP.app (J := J3)).app hC4 h3l hx 3 k 0 (by omega) (by omega) (H2 ++ J3 ++ J4) none 0 [] (Old.refl _ _) (Lst.nil _ _) (by simp) (fun o ho => by cases ho)
    simp only [Int.natCast_zero, List.length_nil] at e5
    have hC5 : Sees H5 H1.length (cmp4 d s x y) := hC4.old o5 hC4.lt
    have m3 := hC3.cell
    unfold cmp4 at m3
    have hx5 : ∀ e ∈ outs, e.xs.length ≤ 400 := fun e he => (G5 e he).2.1
    repeat (first | (with_reducible refine (e4 _ _).trans ?_) | (with_reducible refine (e5 _ _ _).trans ?_) | ((with_reducible refine go_ip (x := ?_) ?_ ?_); rotate_left 1; (first | ((with_reducible refine (m3 _).trans ?_); rfl) | rfl)) | ((with_reducible refine go_bp (x := ?_) ?_ ?_); rotate_left 1; (first | ((with_reducible refine (m3 _).trans ?_); rfl) | rfl)) | ((with_reducible refine go_lp (x := ?_) (l := ?_) (c := ?_) ?_ ?_); rotate_left 3; (first | ((with_reducible refine (m3 _).trans ?_); rfl) | rfl)) | ((with_reducible refine go_pp (x := ?_) ?_ ?_); rotate_left 1; (first | ((with_reducible refine (m3 _).trans ?_); rfl) | rfl)) | ((with_reducible refine go_i (x := ?_) ?_ ?_); rotate_left 1; (first | ((with_reducible refine (m3 _).trans ?_); rfl) | rfl)) | ((with_reducible refine go_b (x := ?_) ?_ ?_); rotate_left 1; (first | ((with_reducible refine (m3 _).trans ?_); rfl) | rfl)) | ((with_reducible refine go_l (x := ?_) (l := ?_) (c := ?_) ?_ ?_); rotate_left 3; (first | ((with_reducible refine (m3 _).trans ?_); rfl) | rfl)) | ((with_reducible refine go_p (x := ?_) ?_ ?_); rotate_left 1; (first | ((with_reducible refine (m3 _).trans ?_); rfl) | rfl)) | ((with_reducible refine go_halst rfl ?_ ?_ ?_); rfl; rfl) | (with_reducible refine go_halN rfl ?_) | ((with_reducible refine go_t ?_ ?_); (show _ = true; rfl)) | ((with_reducible refine go_f ?_ ?_); (show _ = false; rfl)) | (with_reducible refine go_ne ?_) | (with_reducible refine go_eq ?_) | (with_reducible refine go_fad ?_) | (with_reducible refine go_nil ?_))
    by_cases he : errv t outs 1048576 = 0
    · obtain ⟨N6, H6, q6, c6, o6, e6, U6, p6, k6⟩ := Apply_ok (k := k) (by omega) c5 U5.pls (by omega) hx5 (U5.cap (by omega)) he
      have hlen6 : o6.length = outs.length := U6.len.symm
      have hp6 : ∀ (R : Type) (KN : Int → Option Addr → Option Addr → Nat → Nat → Bool → Option R), L_ColorRanges_p6 k t (some ⟨H1.length, 0, none⟩) q6 outs.length c6 0 KN = KN t (some ⟨H1.length, 0, none⟩) q6 outs.length c6 (t == 0) := fun R KN => rfl
      refine (e6 _ _).trans ?_
      refine (hp6 _ _).trans ?_
      cases ht : t == 0 with
      | true => exact go_t rfl (fin _)
      | false =>
        refine go_f rfl ?_
        have hF := fine_of (by omega) (by omega) he
        have h33 := (len3 he ht).1
        have hol : outs.length = 3 := by omega
        have ho6 : o6.length = 3 := by omega
        have hb : (((outs.length : Nat) : Int) != 3) = false := by rw [hol]; rfl
        refine go_f hb ?_
        have hx6 : ∀ e ∈ o6, e.xs.length ≤ 400 := fun e he => by
          have hpl : e.pl ∈ trp (fwd t) t (outs.map Pr.pl) := by rw [← p6]; exact List.mem_map_of_mem he
          exact trp_len (fun p hp => by obtain ⟨f, hf, rfl⟩ := List.mem_map.1 hp; exact hx5 f hf) _ hpl
        obtain ⟨a0, a1, a2, r, rfl⟩ := three (es := outs) (by omega)
        have hr : r = [] := by simp only [List.length_cons] at hol; exact List.length_eq_zero_iff.1 (by omega)
        subst hr
        have g0 := G5 a0 (by simp)
        have g1 := G5 a1 (by simp)
        have g2 := G5 a2 (by simp)
        have hlim := lim_eq g0.1 s
        have hbn : bnd t d = 2 * p2 (d - 1) := by unfold bnd; rw [hF.k, g0.1, ht]; exact hlim.2.2.2.2.2
        have fb := fun i => fwd_small (kn_cases hF.k ht) ⟨hlim.1, hlim.2.1⟩ (g0.2.2 i) (g1.2.2 i) (g2.2.2 i)
        have hok : ∀ i (e : Pr), i < 3 → o6[i]? = some e → okp (bnd t d) e.xs = true := fun i e hi he => by
          have hpi : (trp (fwd t) t ([a0, a1, a2].map Pr.pl))[i]? = some e.pl := by rw [← p6, List.getElem?_map, he]; rfl
          unfold trp at hpi
          rw [ht] at hpi
          rw [hbn]
          refine okp_mk (by omega) (by omega) fun v hv => ?_
          match i, hi, hpi with
          | 0, _, hpi =>
            have : e.xs = tr3 (fwd t) a0.xs a1.xs a2.xs pr0 := (congrArg (fun p : PL => p.2.2.2.2) (Option.some.inj hpi)).symm
            rw [this] at hv
            obtain ⟨j, _, rfl⟩ := tr3_mem hv
            exact (fb j).1
          | 1, _, hpi =>
            have : e.xs = tr3 (fwd t) a0.xs a1.xs a2.xs pr1 := (congrArg (fun p : PL => p.2.2.2.2) (Option.some.inj hpi)).symm
            rw [this] at hv
            obtain ⟨j, _, rfl⟩ := tr3_mem hv
            exact (fb j).2.1
          | 2, _, hpi =>
            have : e.xs = tr3 (fwd t) a0.xs a1.xs a2.xs pr2 := (congrArg (fun p : PL => p.2.2.2.2) (Option.some.inj hpi)).symm
            rw [this] at hv
            obtain ⟨j, _, rfl⟩ := tr3_mem hv
            exact (fb j).2.2
        obtain ⟨J7, e7⟩ := ranges_l7 k (by omega) t c6 hx6 hok ho6 3 k 0 (by omega) (by omega) H6 U6.pls (hC5.old k6 hC5.lt)
        rw [hlen6] at e7
        simp only [Int.natCast_zero] at e7
        refine (e7 _ _ _).trans ?_
        exact fin _
    · obtain ⟨J6, e6⟩ := Apply_bad (k := k) (by omega) c5 U5.pls (by omega) hx5 (U5.cap (by omega)) he
      have hne : (errv t outs 1048576 != 0) = true := by simpa using he
      refine (e6 _ _).trans ?_
      unfold L_ColorRanges_p6 L_ColorRanges_p6_b
      refine go_t hne ?_
      exact go_t rfl (fin _)
theorem ranges_in (H : Heap) (us : List Value) (h : AllLies H [(.int .i64, false), (.pair dPlane (.pair dPlane (.pair dPlane .nil)), true), (dComp, true)] us) : L_ColorRanges_c Bool 2000 us H asB = some true := ranges _ (by omega) H us h
end Go.Proofs.Ytoeoolnkndkefaa.Sh
