/- Color: the errors of Apply and Undo. -/
import Derived.Test.YtoeoolnkndkefaaClI
import Derived.Test.YtoeoolnkndkefaaSh8
import Derived.Test.YtoeoolnkndkefaaSh11
set_option linter.unusedVariables false
set_option linter.unusedSimpArgs false
namespace Go.Proofs.Ytoeoolnkndkefaa.Sh
open Go.Proofs.Ytoeoolnkndkefaa.FW
abbrev Pr.blk (e : Pr) : Option Blk := some ⟨[.int .i64 e.x0, .int .i64 e.y0, .int .i64 e.x1, .int .i64 e.y1, .slice e.q e.xs.length e.c], false, 0⟩
def okp (most : Int) (xs : List Int) : Bool := xs.all fun v => !decide (v > most) && !decide (v < IntKind.wrap .i64 (0 - most))
abbrev rq (e f : Pr) : Bool := ((((true && (e.x0 == f.x0)) && (e.y0 == f.y0)) && (e.x1 == f.x1)) && (e.y1 == f.y1))
def pvE (e : Pr) : Bool := pv e.x0 e.y0 e.x1 e.y1 e.xs.length
theorem rq_self (e : Pr) : rq e e = true := by simp [rq]
theorem rq_comm (e f : Pr) : rq e f = rq f e := by
  simp only [rq]
  rw [show (e.x0 == f.x0) = (f.x0 == e.x0) from Bool.beq_comm, show (e.y0 == f.y0) = (f.y0 == e.y0) from Bool.beq_comm, show (e.x1 == f.x1) = (f.x1 == e.x1) from Bool.beq_comm, show (e.y1 == f.y1) = (f.y1 == e.y1) from Bool.beq_comm]
def err3 (most : Int) : List Pr → Int
  | e0 :: e1 :: e2 :: _ => bif !([e0, e1, e2].all fun e => rq e e0) then 1 else bif !([e0, e1, e2].all fun e => okp most e.xs) then 2 else 0
  | _ => 4
def errv (t : Int) (es : List Pr) (most : Int) : Int := bif !kn t then 3 else bif !(es.all pvE) then 1 else bif t == 0 then 0 else err3 most es
theorem wnext {i l : Nat} (h : i < l) (hl : l ≤ 9223372036854775807) : IntKind.wrap .i64 ((i : Int) + 1) = ((i + 1 : Nat) : Int) := by rw [w64 (by omega) (by omega)]; omega
theorem drop_int {xs : List Int} {i m : Nat} (h : xs.length = i + (m + 1)) : xs.drop i = xs.getD i 0 :: xs.drop (i + 1) := by
  have hlt : i < xs.length := by omega
  rw [List.drop_eq_getElem_cons hlt, List.getD_eq_getElem?_getD, List.getElem?_eq_getElem hlt]; rfl
theorem check_l0 (k : Nat) (t most : Int) {q : Option Addr} {es : List Pr} (c : Nat) (hl : es.length ≤ 9223372036854775807) : ∀ (m n i : Nat), m < n → es.length = i + m → ∀ (H : Heap), Pls H q es → ∃ J, ∀ (R : Type) (KE : Int → Option Addr → Nat → Nat → Int → Heap → Option R) (KR : Int → Heap → Option R), color_check_l0 k KE KR n t q es.length c most q es.length c ((es.length : Nat) : Int) (i : Int) H = bif (es.drop i).all pvE then KE t q es.length c most (H ++ J) else KR 1 (H ++ J) := by
  intro m
  induction m with
  | zero =>
    intro n i hn hi H hP
    obtain ⟨n, rfl⟩ : ∃ n', n = n' + 1 := ⟨n - 1, by omega⟩
    refine ⟨[], fun R KE KR => ?_⟩
    have ed : decide ((i : Int) < ((es.length : Nat) : Int)) = false := decide_eq_false (by omega)
    rw [List.drop_of_length_le (by omega), List.append_nil]
    simp only [color_check_l0, color_check_l0_b, ed, cond_false]
    rfl
  | succ m ih =>
    intro n i hn hi H hP
    obtain ⟨n, rfl⟩ : ∃ n', n = n' + 1 := ⟨n - 1, by omega⟩
    have ed : decide ((i : Int) < ((es.length : Nat) : Int)) = true := decide_eq_true (by omega)
    obtain ⟨e, he, hd⟩ := get_of hi
    obtain ⟨b, o, e0, m0, m1, m2, m3, m4, hS⟩ := hP.at he
    obtain ⟨J1, e1⟩ := planeValid_eq e.x0 e.y0 e.x1 e.y1 e.q e.xs.length e.c (H ++ [e.blk])
    obtain ⟨J2, e2⟩ := ih n (i + 1) (by omega) (by omega) (H ++ [e.blk] ++ J1) hP.app.app
    have w := wnext (i := i) (l := es.length) (by omega) hl
    rw [hd, List.all_cons, show pvE e = pv e.x0 e.y0 e.x1 e.y1 e.xs.length from rfl]
    cases hb : pv e.x0 e.y0 e.x1 e.y1 e.xs.length with
    | false =>
      refine ⟨e.blk :: J1, fun R KE KR => ?_⟩
      rw [hb] at e1
      unfold color_check_l0 color_check_l0_b
      repeat (first | (with_reducible refine (e0 _ _).trans ?_) | (with_reducible refine (e1 _ _).trans ?_) | ((with_reducible refine go_ip (x := ?_) ?_ ?_); rotate_left 1; (first | ((with_reducible refine (hcell_new _ _ _).trans ?_); rfl) | exact m0 | exact m1 | exact m2 | exact m3 | exact m4 | rfl)) | ((with_reducible refine go_bp (x := ?_) ?_ ?_); rotate_left 1; (first | ((with_reducible refine (hcell_new _ _ _).trans ?_); rfl) | exact m0 | exact m1 | exact m2 | exact m3 | exact m4 | rfl)) | ((with_reducible refine go_lp (x := ?_) (l := ?_) (c := ?_) ?_ ?_); rotate_left 3; (first | ((with_reducible refine (hcell_new _ _ _).trans ?_); rfl) | exact m0 | exact m1 | exact m2 | exact m3 | exact m4 | rfl)) | ((with_reducible refine go_pp (x := ?_) ?_ ?_); rotate_left 1; (first | ((with_reducible refine (hcell_new _ _ _).trans ?_); rfl) | exact m0 | exact m1 | exact m2 | exact m3 | exact m4 | rfl)) | ((with_reducible refine go_i (x := ?_) ?_ ?_); rotate_left 1; (first | ((with_reducible refine (hcell_new _ _ _).trans ?_); rfl) | exact m0 | exact m1 | exact m2 | exact m3 | exact m4 | rfl)) | ((with_reducible refine go_b (x := ?_) ?_ ?_); rotate_left 1; (first | ((with_reducible refine (hcell_new _ _ _).trans ?_); rfl) | exact m0 | exact m1 | exact m2 | exact m3 | exact m4 | rfl)) | ((with_reducible refine go_l (x := ?_) (l := ?_) (c := ?_) ?_ ?_); rotate_left 3; (first | ((with_reducible refine (hcell_new _ _ _).trans ?_); rfl) | exact m0 | exact m1 | exact m2 | exact m3 | exact m4 | rfl)) | ((with_reducible refine go_p (x := ?_) ?_ ?_); rotate_left 1; (first | ((with_reducible refine (hcell_new _ _ _).trans ?_); rfl) | exact m0 | exact m1 | exact m2 | exact m3 | exact m4 | rfl)) | ((with_reducible refine go_halst rfl ?_ ?_ ?_); rfl; rfl) | (with_reducible refine go_halN rfl ?_) | (with_reducible refine go_t ed ?_) | (with_reducible refine go_f ed ?_) | ((with_reducible refine go_t ?_ ?_); (show _ = true; rfl)) | ((with_reducible refine go_f ?_ ?_); (show _ = false; rfl)) | (with_reducible refine go_ne ?_) | (with_reducible refine go_eq ?_) | (with_reducible refine go_fad ?_) | (with_reducible refine go_nil ?_))
      simp only [List.append_assoc]; rfl
    | true =>
      refine ⟨e.blk :: (J1 ++ J2), fun R KE KR => ?_⟩
      rw [hb] at e1
      unfold color_check_l0 color_check_l0_b
      repeat (first | (with_reducible refine (e0 _ _).trans ?_) | (with_reducible refine (e1 _ _).trans ?_) | ((with_reducible refine go_ip (x := ?_) ?_ ?_); rotate_left 1; (first | ((with_reducible refine (hcell_new _ _ _).trans ?_); rfl) | exact m0 | exact m1 | exact m2 | exact m3 | exact m4 | rfl)) | ((with_reducible refine go_bp (x := ?_) ?_ ?_); rotate_left 1; (first | ((with_reducible refine (hcell_new _ _ _).trans ?_); rfl) | exact m0 | exact m1 | exact m2 | exact m3 | exact m4 | rfl)) | ((with_reducible refine go_lp (x := ?_) (l := ?_) (c := ?_) ?_ ?_); rotate_left 3; (first | ((with_reducible refine (hcell_new _ _ _).trans ?_); rfl) | exact m0 | exact m1 | exact m2 | exact m3 | exact m4 | rfl)) | ((with_reducible refine go_pp (x := ?_) ?_ ?_); rotate_left 1; (first | ((with_reducible refine (hcell_new _ _ _).trans ?_); rfl) | exact m0 | exact m1 | exact m2 | exact m3 | exact m4 | rfl)) | ((with_reducible refine go_i (x := ?_) ?_ ?_); rotate_left 1; (first | ((with_reducible refine (hcell_new _ _ _).trans ?_); rfl) | exact m0 | exact m1 | exact m2 | exact m3 | exact m4 | rfl)) | ((with_reducible refine go_b (x := ?_) ?_ ?_); rotate_left 1; (first | ((with_reducible refine (hcell_new _ _ _).trans ?_); rfl) | exact m0 | exact m1 | exact m2 | exact m3 | exact m4 | rfl)) | ((with_reducible refine go_l (x := ?_) (l := ?_) (c := ?_) ?_ ?_); rotate_left 3; (first | ((with_reducible refine (hcell_new _ _ _).trans ?_); rfl) | exact m0 | exact m1 | exact m2 | exact m3 | exact m4 | rfl)) | ((with_reducible refine go_p (x := ?_) ?_ ?_); rotate_left 1; (first | ((with_reducible refine (hcell_new _ _ _).trans ?_); rfl) | exact m0 | exact m1 | exact m2 | exact m3 | exact m4 | rfl)) | ((with_reducible refine go_halst rfl ?_ ?_ ?_); rfl; rfl) | (with_reducible refine go_halN rfl ?_) | (with_reducible refine go_t ed ?_) | (with_reducible refine go_f ed ?_) | ((with_reducible refine go_t ?_ ?_); (show _ = true; rfl)) | ((with_reducible refine go_f ?_ ?_); (show _ = false; rfl)) | (with_reducible refine go_ne ?_) | (with_reducible refine go_eq ?_) | (with_reducible refine go_fad ?_) | (with_reducible refine go_nil ?_))
      rw [w, e2]
      simp only [List.append_assoc]; rfl
theorem check_l1 (k : Nat) (most : Int) {q : Option Addr} {es a : List Pr} {f : Pr} (c c' : Nat) (hl : a.length ≤ 9223372036854775807) (hf : es[0]? = some f) : ∀ (m n i : Nat), m < n → a.length = i + m → ∀ (H : Heap), Pls H q es → Pls H q a → ∃ J, ∀ (R : Type) (KE : Option Addr → Nat → Nat → Int → Heap → Option R) (KR : Int → Heap → Option R), color_check_l1 k KE KR n q es.length c most q a.length c' ((a.length : Nat) : Int) (i : Int) H = bif (a.drop i).all (fun e => rq e f) then KE q es.length c most (H ++ J) else KR 1 (H ++ J) := by
  intro m
  induction m with
  | zero =>
    intro n i hn hi H hP hA
    obtain ⟨n, rfl⟩ : ∃ n', n = n' + 1 := ⟨n - 1, by omega⟩
    refine ⟨[], fun R KE KR => ?_⟩
    have ed : decide ((i : Int) < ((a.length : Nat) : Int)) = false := decide_eq_false (by omega)
    rw [List.drop_of_length_le (by omega), List.append_nil]
    simp only [color_check_l1, color_check_l1_b, ed, cond_false]
    rfl
  | succ m ih =>
    intro n i hn hi H hP hA
    obtain ⟨n, rfl⟩ : ∃ n', n = n' + 1 := ⟨n - 1, by omega⟩
    have ed : decide ((i : Int) < ((a.length : Nat) : Int)) = true := decide_eq_true (by omega)
    obtain ⟨e, he, hd⟩ := get_of hi
    obtain ⟨b, o, e0, m0, m1, m2, m3, m4, hS⟩ := hA.at he
    obtain ⟨b', o', e0', m0', m1', m2', m3', m4', hS'⟩ := (hP.app (J := [e.blk])).at hf
    simp only [Int.natCast_zero] at e0'
    obtain ⟨J2, e2⟩ := ih n (i + 1) (by omega) (by omega) (H ++ [e.blk]) hP.app hA.app
    have w := wnext (i := i) (l := a.length) (by omega) hl
    rw [hd, List.all_cons]
    cases hb : rq e f with
    | false =>
      refine ⟨[e.blk], fun R KE KR => ?_⟩
      have hb' : (!(rq e f)) = true := by rw [hb]; rfl
      unfold color_check_l1 color_check_l1_b
      repeat (first | (with_reducible refine (e0 _ _).trans ?_) | (with_reducible refine (e0' _ _).trans ?_) | ((with_reducible refine go_ip (x := ?_) ?_ ?_); rotate_left 1; (first | ((with_reducible refine (hcell_new _ _ _).trans ?_); rfl) | exact m0 | exact m1 | exact m2 | exact m3 | exact m4 | exact m0' | exact m1' | exact m2' | exact m3' | exact m4' | rfl)) | ((with_reducible refine go_bp (x := ?_) ?_ ?_); rotate_left 1; (first | ((with_reducible refine (hcell_new _ _ _).trans ?_); rfl) | exact m0 | exact m1 | exact m2 | exact m3 | exact m4 | exact m0' | exact m1' | exact m2' | exact m3' | exact m4' | rfl)) | ((with_reducible refine go_lp (x := ?_) (l := ?_) (c := ?_) ?_ ?_); rotate_left 3; (first | ((with_reducible refine (hcell_new _ _ _).trans ?_); rfl) | exact m0 | exact m1 | exact m2 | exact m3 | exact m4 | exact m0' | exact m1' | exact m2' | exact m3' | exact m4' | rfl)) | ((with_reducible refine go_pp (x := ?_) ?_ ?_); rotate_left 1; (first | ((with_reducible refine (hcell_new _ _ _).trans ?_); rfl) | exact m0 | exact m1 | exact m2 | exact m3 | exact m4 | exact m0' | exact m1' | exact m2' | exact m3' | exact m4' | rfl)) | ((with_reducible refine go_i (x := ?_) ?_ ?_); rotate_left 1; (first | ((with_reducible refine (hcell_new _ _ _).trans ?_); rfl) | exact m0 | exact m1 | exact m2 | exact m3 | exact m4 | exact m0' | exact m1' | exact m2' | exact m3' | exact m4' | rfl)) | ((with_reducible refine go_b (x := ?_) ?_ ?_); rotate_left 1; (first | ((with_reducible refine (hcell_new _ _ _).trans ?_); rfl) | exact m0 | exact m1 | exact m2 | exact m3 | exact m4 | exact m0' | exact m1' | exact m2' | exact m3' | exact m4' | rfl)) | ((with_reducible refine go_l (x := ?_) (l := ?_) (c := ?_) ?_ ?_); rotate_left 3; (first | ((with_reducible refine (hcell_new _ _ _).trans ?_); rfl) | exact m0 | exact m1 | exact m2 | exact m3 | exact m4 | exact m0' | exact m1' | exact m2' | exact m3' | exact m4' | rfl)) | ((with_reducible refine go_p (x := ?_) ?_ ?_); rotate_left 1; (first | ((with_reducible refine (hcell_new _ _ _).trans ?_); rfl) | exact m0 | exact m1 | exact m2 | exact m3 | exact m4 | exact m0' | exact m1' | exact m2' | exact m3' | exact m4' | rfl)) | ((with_reducible refine go_halst rfl ?_ ?_ ?_); rfl; rfl) | (with_reducible refine go_halN rfl ?_) | (with_reducible refine go_t ed ?_) | (with_reducible refine go_f ed ?_) | (with_reducible refine go_t hb' ?_) | (with_reducible refine go_f hb' ?_) | ((with_reducible refine go_t ?_ ?_); (show _ = true; rfl)) | ((with_reducible refine go_f ?_ ?_); (show _ = false; rfl)) | (with_reducible refine go_ne ?_) | (with_reducible refine go_eq ?_) | (with_reducible refine go_fad ?_) | (with_reducible refine go_nil ?_))
      rfl
    | true =>
      refine ⟨e.blk :: J2, fun R KE KR => ?_⟩
      have hb' : (!(rq e f)) = false := by rw [hb]; rfl
      unfold color_check_l1 color_check_l1_b
      repeat (first | (with_reducible refine (e0 _ _).trans ?_) | (with_reducible refine (e0' _ _).trans ?_) | ((with_reducible refine go_ip (x := ?_) ?_ ?_); rotate_left 1; (first | ((with_reducible refine (hcell_new _ _ _).trans ?_); rfl) | exact m0 | exact m1 | exact m2 | exact m3 | exact m4 | exact m0' | exact m1' | exact m2' | exact m3' | exact m4' | rfl)) | ((with_reducible refine go_bp (x := ?_) ?_ ?_); rotate_left 1; (first | ((with_reducible refine (hcell_new _ _ _).trans ?_); rfl) | exact m0 | exact m1 | exact m2 | exact m3 | exact m4 | exact m0' | exact m1' | exact m2' | exact m3' | exact m4' | rfl)) | ((with_reducible refine go_lp (x := ?_) (l := ?_) (c := ?_) ?_ ?_); rotate_left 3; (first | ((with_reducible refine (hcell_new _ _ _).trans ?_); rfl) | exact m0 | exact m1 | exact m2 | exact m3 | exact m4 | exact m0' | exact m1' | exact m2' | exact m3' | exact m4' | rfl)) | ((with_reducible refine go_pp (x := ?_) ?_ ?_); rotate_left 1; (first | ((with_reducible refine (hcell_new _ _ _).trans ?_); rfl) | exact m0 | exact m1 | exact m2 | exact m3 | exact m4 | exact m0' | exact m1' | exact m2' | exact m3' | exact m4' | rfl)) | ((with_reducible refine go_i (x := ?_) ?_ ?_); rotate_left 1; (first | ((with_reducible refine (hcell_new _ _ _).trans ?_); rfl) | exact m0 | exact m1 | exact m2 | exact m3 | exact m4 | exact m0' | exact m1' | exact m2' | exact m3' | exact m4' | rfl)) | ((with_reducible refine go_b (x := ?_) ?_ ?_); rotate_left 1; (first | ((with_reducible refine (hcell_new _ _ _).trans ?_); rfl) | exact m0 | exact m1 | exact m2 | exact m3 | exact m4 | exact m0' | exact m1' | exact m2' | exact m3' | exact m4' | rfl)) | ((with_reducible refine go_l (x := ?_) (l := ?_) (c := ?_) ?_ ?_); rotate_left 3; (first | ((with_reducible refine (hcell_new _ _ _).trans ?_); rfl) | exact m0 | exact m1 | exact m2 | exact m3 | exact m4 | exact m0' | exact m1' | exact m2' | exact m3' | exact m4' | rfl)) | ((with_reducible refine go_p (x := ?_) ?_ ?_); rotate_left 1; (first | ((with_reducible refine (hcell_new _ _ _).trans ?_); rfl) | exact m0 | exact m1 | exact m2 | exact m3 | exact m4 | exact m0' | exact m1' | exact m2' | exact m3' | exact m4' | rfl)) | ((with_reducible refine go_halst rfl ?_ ?_ ?_); rfl; rfl) | (with_reducible refine go_halN rfl ?_) | (with_reducible refine go_t ed ?_) | (with_reducible refine go_f ed ?_) | (with_reducible refine go_t hb' ?_) | (with_reducible refine go_f hb' ?_) | ((with_reducible refine go_t ?_ ?_); (show _ = true; rfl)) | ((with_reducible refine go_f ?_ ?_); (show _ = false; rfl)) | (with_reducible refine go_ne ?_) | (with_reducible refine go_eq ?_) | (with_reducible refine go_fad ?_) | (with_reducible refine go_nil ?_))
      rw [w, e2]
      simp only [List.append_assoc]; rfl
theorem check_l3 (k : Nat) (most : Int) {q : Option Addr} {xs : List Int} (c : Nat) (hl : xs.length ≤ 400) (q3 : Option Addr) (l3 c3 : Nat) (nn jj : Int) {H : Heap} (hS : Shows H q (ints xs)) : ∀ (m n i : Nat), m < n → xs.length = i + m → ∀ (R : Type) (KE : Int → Option Addr → Nat → Nat → Int → Int → Option R) (KR : Int → Option R), color_check_l3 k KE KR n most q3 l3 c3 nn jj q xs.length c ((xs.length : Nat) : Int) (i : Int) H = bif okp most (xs.drop i) then KE most q3 l3 c3 nn jj else KR 2 := by
  intro m
  induction m with
  | zero =>
    intro n i hn hi R KE KR
    obtain ⟨n, rfl⟩ : ∃ n', n = n' + 1 := ⟨n - 1, by omega⟩
    have ed : decide ((i : Int) < ((xs.length : Nat) : Int)) = false := decide_eq_false (by omega)
    rw [List.drop_of_length_le (by omega)]
    simp only [color_check_l3, color_check_l3_b, ed, cond_false]
    rfl
  | succ m ih =>
    intro n i hn hi R KE KR
    obtain ⟨n, rfl⟩ : ∃ n', n = n' + 1 := ⟨n - 1, by omega⟩
    have ed : decide ((i : Int) < ((xs.length : Nat) : Int)) = true := decide_eq_true (by omega)
    obtain ⟨p, e1, l1⟩ := int_at hS (i := i) (by omega)
    rw [drop_int hi, show okp most (xs.getD i 0 :: xs.drop (i + 1)) = ((!decide (xs.getD i 0 > most) && !decide (xs.getD i 0 < IntKind.wrap .i64 (0 - most))) && okp most (xs.drop (i + 1))) from rfl]
    have w := wnext (i := i) (l := xs.length) (by omega) (by omega)
    simp only [color_check_l3, color_check_l3_b, color_check_p4, color_check_p4_b, ed, cond_true, e1, l1, w, ih n (i + 1) (by omega) (by omega)]
    cases decide (xs.getD i 0 > most) <;> cases decide (xs.getD i 0 < IntKind.wrap .i64 (0 - most)) <;> rfl
theorem check_l2 (k : Nat) (hk : 400 < k) (most : Int) {q : Option Addr} {a : List Pr} (c' : Nat) (hl : a.length ≤ 9223372036854775807) (hx : ∀ e ∈ a, e.xs.length ≤ 400) : ∀ (m n i : Nat), m < n → a.length = i + m → ∀ (H : Heap), Pls H q a → ∃ J, ∀ (R : Type) (KE : Heap → Option R) (KR : Int → Heap → Option R), color_check_l2 k KE KR n most q a.length c' ((a.length : Nat) : Int) (i : Int) H = bif (a.drop i).all (fun e => okp most e.xs) then KE (H ++ J) else KR 2 (H ++ J) := by
  intro m
  induction m with
  | zero =>
    intro n i hn hi H hA
    obtain ⟨n, rfl⟩ : ∃ n', n = n' + 1 := ⟨n - 1, by omega⟩
    refine ⟨[], fun R KE KR => ?_⟩
    have ed : decide ((i : Int) < ((a.length : Nat) : Int)) = false := decide_eq_false (by omega)
    rw [List.drop_of_length_le (by omega), List.append_nil]
    simp only [color_check_l2, color_check_l2_b, ed, cond_false]
    rfl
  | succ m ih =>
    intro n i hn hi H hA
    obtain ⟨n, rfl⟩ : ∃ n', n = n' + 1 := ⟨n - 1, by omega⟩
    have ed : decide ((i : Int) < ((a.length : Nat) : Int)) = true := decide_eq_true (by omega)
    obtain ⟨e, he, hd⟩ := get_of hi
    obtain ⟨b, o, e0, m0, m1, m2, m3, m4, hS⟩ := hA.at he
    obtain ⟨J2, e2⟩ := ih n (i + 1) (by omega) (by omega) (H ++ [e.blk]) hA.app
    have e3 := fun R KE KR => check_l3 k most e.c (hx e (List.mem_of_getElem? he)) q a.length c' ((a.length : Nat) : Int) (i : Int) (hS.keep (Old.app H [e.blk])) e.xs.length k 0 (by have := hx e (List.mem_of_getElem? he); omega) (by omega) R KE KR
    simp only [Int.natCast_zero, List.drop_zero] at e3
    have w := wnext (i := i) (l := a.length) (by omega) hl
    rw [hd, List.all_cons]
    refine ⟨e.blk :: bif okp most e.xs then J2 else [], fun R KE KR => ?_⟩
    unfold color_check_l2 color_check_l2_b
    repeat (first | (with_reducible refine (e0 _ _).trans ?_) | ((with_reducible refine go_ip (x := ?_) ?_ ?_); rotate_left 1; (first | ((with_reducible refine (hcell_new _ _ _).trans ?_); rfl) | exact m0 | exact m1 | exact m2 | exact m3 | exact m4 | rfl)) | ((with_reducible refine go_bp (x := ?_) ?_ ?_); rotate_left 1; (first | ((with_reducible refine (hcell_new _ _ _).trans ?_); rfl) | exact m0 | exact m1 | exact m2 | exact m3 | exact m4 | rfl)) | ((with_reducible refine go_lp (x := ?_) (l := ?_) (c := ?_) ?_ ?_); rotate_left 3; (first | ((with_reducible refine (hcell_new _ _ _).trans ?_); rfl) | exact m0 | exact m1 | exact m2 | exact m3 | exact m4 | rfl)) | ((with_reducible refine go_pp (x := ?_) ?_ ?_); rotate_left 1; (first | ((with_reducible refine (hcell_new _ _ _).trans ?_); rfl) | exact m0 | exact m1 | exact m2 | exact m3 | exact m4 | rfl)) | ((with_reducible refine go_i (x := ?_) ?_ ?_); rotate_left 1; (first | ((with_reducible refine (hcell_new _ _ _).trans ?_); rfl) | exact m0 | exact m1 | exact m2 | exact m3 | exact m4 | rfl)) | ((with_reducible refine go_b (x := ?_) ?_ ?_); rotate_left 1; (first | ((with_reducible refine (hcell_new _ _ _).trans ?_); rfl) | exact m0 | exact m1 | exact m2 | exact m3 | exact m4 | rfl)) | ((with_reducible refine go_l (x := ?_) (l := ?_) (c := ?_) ?_ ?_); rotate_left 3; (first | ((with_reducible refine (hcell_new _ _ _).trans ?_); rfl) | exact m0 | exact m1 | exact m2 | exact m3 | exact m4 | rfl)) | ((with_reducible refine go_p (x := ?_) ?_ ?_); rotate_left 1; (first | ((with_reducible refine (hcell_new _ _ _).trans ?_); rfl) | exact m0 | exact m1 | exact m2 | exact m3 | exact m4 | rfl)) | ((with_reducible refine go_halst rfl ?_ ?_ ?_); rfl; rfl) | (with_reducible refine go_halN rfl ?_) | (with_reducible refine go_t ed ?_) | (with_reducible refine go_f ed ?_) | ((with_reducible refine go_t ?_ ?_); (show _ = true; rfl)) | ((with_reducible refine go_f ?_ ?_); (show _ = false; rfl)) | (with_reducible refine go_ne ?_) | (with_reducible refine go_eq ?_) | (with_reducible refine go_fad ?_) | (with_reducible refine go_nil ?_))
    refine (e3 _ _ _).trans ?_
    rw [w, e2]
    cases okp most e.xs with
    | false => rfl
    | true => simp only [List.append_assoc, Bool.true_and, cond_true]; rfl
end Go.Proofs.Ytoeoolnkndkefaa.Sh
