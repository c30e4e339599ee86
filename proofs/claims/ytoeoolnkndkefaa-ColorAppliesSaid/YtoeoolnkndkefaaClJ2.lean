/- Color: the errors of Apply and Undo, the program's and the reference's. -/
import Derived.Test.YtoeoolnkndkefaaClJ
set_option linter.unusedVariables false
set_option linter.unusedSimpArgs false
namespace Go.Proofs.Ytoeoolnkndkefaa.Sh
open Go.Proofs.Ytoeoolnkndkefaa.FW
theorem hslc3 {q : Option Addr} {l c : Nat} (h3 : 3 ≤ l) (hc : l ≤ c ∨ (c = unk ∧ l < unk)) (hq : c = unk → q.isSome = true) (hu : c ≤ 9223372036854775807 ∨ c = unk) : (∃ c', ∀ (R : Type) (K : Option Addr → Nat → Nat → Option R), hslc 5 q l c none (some 3) none K = K q 3 c') := by
  by_cases hcu : c = unk
  · refine ⟨unk, fun R K => ?_⟩
    unfold hslc
    simp only [Option.getD_none, Option.getD_some]
    rw [if_pos ⟨by omega, by omega, by have : 3 ≤ c := by { rw [hcu]; unfold unk; omega }; omega, by rw [if_pos hcu]; exact ⟨hq hcu, .inr ⟨rfl, by omega⟩⟩⟩, if_pos ⟨hcu, rfl⟩, if_pos trivial, ← hcu]
    rfl
  · have hlc : l ≤ c := by rcases hc with h | h; exact h; exact absurd h.1 hcu
    have hlt : c < unk := by rcases hu with h | h; (unfold unk; omega); exact absurd h hcu
    refine ⟨c, fun R K => ?_⟩
    unfold hslc
    simp only [Option.getD_none, Option.getD_some]
    rw [if_pos ⟨by omega, by omega, by omega, by rw [if_neg hcu]; exact ⟨by omega, hlt⟩⟩, if_neg (fun h => hcu h.1), if_neg (by omega)]
    cases q <;> rfl
/-- How such a list's capacity may be. -/
def CapOk (q : Option Addr) (l c : Nat) : Prop := (l ≤ c ∧ c ≤ 9223372036854775807) ∨ (c = unk ∧ l ≤ 9223372036854775807 ∧ q.isSome = true)
theorem three {es : List Pr} (h : 3 ≤ es.length) : ∃ a b c r, es = a :: b :: c :: r := by
  match es, h with
  | a :: b :: c :: r, _ => exact ⟨a, b, c, r, rfl⟩
theorem check_eq {k : Nat} (hk : 500 < k) (t most : Int) {H : Heap} {q : Option Addr} {es : List Pr} (c : Nat) (hkl : es.length < k) (hl : es.length ≤ 9223372036854775807) (hP : Pls H q es) (hx : ∀ e ∈ es, e.xs.length ≤ 400) (hC : CapOk q es.length c) : ∃ J, ∀ (R : Type) (K : Int → Heap → Option R), color_check k t q es.length c most H K = K (errv t es most) (H ++ J) := by
  unfold color_check color_check_b errv
  cases h1 : kn t with
  | false =>
    refine ⟨[], fun R K => ?_⟩
    rw [known_eq, h1, List.append_nil]
    rfl
  | true =>
    have h1' : (!kn t) = false := by rw [h1]; rfl
    obtain ⟨J1, e1⟩ := check_l0 k t most c hl es.length k 0 hkl (by omega) H hP
    simp only [Int.natCast_zero, List.drop_zero] at e1
    cases h2 : es.all pvE with
    | false =>
      refine ⟨J1, fun R K => ?_⟩
      rw [h2] at e1
      rw [known_eq]
      refine go_f h1' ?_
      exact e1 _ _ _
    | true =>
      rw [h2] at e1
      simp only [cond_true] at e1
      cases h3 : t == 0 with
      | true =>
        refine ⟨J1, fun R K => ?_⟩
        rw [known_eq]
        refine go_f h1' ?_
        refine (e1 _ _ _).trans ?_
        exact go_t h3 rfl
      | false =>
        by_cases h4 : es.length < 3
        · refine ⟨J1, fun R K => ?_⟩
          rw [known_eq]
          refine go_f h1' ?_
          refine (e1 _ _ _).trans ?_
          refine go_f h3 ?_
          refine go_t (decide_eq_true (by omega)) ?_
          match es, h4 with
          | [], _ => rfl
          | [_], _ => rfl
          | [_, _], _ => rfl
        · obtain ⟨f0, f1, f2, r, rfl⟩ := three (es := es) (by omega)
          obtain ⟨c', e4⟩ := hslc3 (q := q) (l := (f0 :: f1 :: f2 :: r).length) (c := c) (by omega) (by rcases hC with h | h; exact .inl h.1; exact .inr ⟨h.1, by unfold unk; have := h.2.1; omega⟩) (by rcases hC with h | h; (intro hh; unfold unk at hh; omega); exact fun _ => h.2.2) (by rcases hC with h | h; exact .inl h.2; exact .inr h.1)
          have hA : Pls H q [f0, f1, f2] := Pls.take (b := r) hP
          obtain ⟨J2, e5⟩ := check_l1 (es := f0 :: f1 :: f2 :: r) (a := [f0, f1, f2]) (f := f0) k most c c' (by simp) rfl 3 k 0 (by omega) (by simp) (H ++ J1) hP.app hA.app
          obtain ⟨J3, e6⟩ := check_l2 (a := [f0, f1, f2]) k (by omega) most c' (by simp) (fun e he => hx e (by simp only [List.mem_cons, List.not_mem_nil, or_false] at he ⊢; rcases he with h | h | h <;> simp [h])) 3 k 0 (by omega) (by simp) (H ++ J1 ++ J2) hA.app.app
          simp only [Int.natCast_zero, List.drop_zero] at e5 e6
          have h4' : decide (((((f0 :: f1 :: f2 :: r).length : Nat) : Int)) < 3) = false := decide_eq_false (by omega)
          simp only [err3]
          refine ⟨J1 ++ (J2 ++ bif [f0, f1, f2].all (fun e => rq e f0) then J3 else []), fun R K => ?_⟩
          rw [known_eq]
          refine go_f h1' ?_
          refine (e1 _ _ _).trans ?_
          refine go_f h3 ?_
          refine go_f h4' ?_
          refine (e4 _ _).trans ?_
          refine (e5 _ _ _).trans ?_
          cases h5 : [f0, f1, f2].all (fun e => rq e f0) with
          | false => simp only [List.append_assoc, cond_false, List.append_nil]; rfl
          | true =>
            refine go_t rfl ?_
            refine (e4 _ _).trans ?_
            refine (e6 _ _ _).trans ?_
            simp only [List.append_assoc, cond_true]
            cases [f0, f1, f2].all (fun e => okp most e.xs) <;> rfl
theorem errors_l0 (k : Nat) (t most : Int) {q : Option Addr} {es : List Pr} (c : Nat) (hl : es.length ≤ 9223372036854775807) : ∀ (m n i : Nat), m < n → es.length = i + m → ∀ (H : Heap), Pls H q es → ∃ J, ∀ (R : Type) (KE : Int → Option Addr → Nat → Nat → Int → Heap → Option R) (KR : Int → Heap → Option R), R07_errors_l0 k KE KR n t q es.length c most (i : Int) H = bif (es.drop i).all pvE then KE t q es.length c most (H ++ J) else KR 1 (H ++ J) := by
  intro m
  induction m with
  | zero =>
    intro n i hn hi H hP
    obtain ⟨n, rfl⟩ : ∃ n', n = n' + 1 := ⟨n - 1, by omega⟩
    refine ⟨[], fun R KE KR => ?_⟩
    have ed : decide ((i : Int) < ((es.length : Nat) : Int)) = false := decide_eq_false (by omega)
    rw [List.drop_of_length_le (by omega), List.append_nil]
    simp only [R07_errors_l0, R07_errors_l0_b, ed, cond_false]
    rfl
  | succ m ih =>
    intro n i hn hi H hP
    obtain ⟨n, rfl⟩ : ∃ n', n = n' + 1 := ⟨n - 1, by omega⟩
    have ed : decide ((i : Int) < ((es.length : Nat) : Int)) = true := decide_eq_true (by omega)
    obtain ⟨e, he, hd⟩ := get_of hi
    obtain ⟨b, o, e0, m0, m1, m2, m3, m4, hS⟩ := hP.at he
    obtain ⟨J1, e1⟩ := planeValidR_eq e.x0 e.y0 e.x1 e.y1 e.q e.xs.length e.c H
    obtain ⟨J2, e2⟩ := ih n (i + 1) (by omega) (by omega) (H ++ J1) hP.app
    have w := wnext (i := i) (l := es.length) (by omega) hl
    rw [hd, List.all_cons, show pvE e = pv e.x0 e.y0 e.x1 e.y1 e.xs.length from rfl]
    refine ⟨J1 ++ bif pv e.x0 e.y0 e.x1 e.y1 e.xs.length then J2 else [], fun R KE KR => ?_⟩
    unfold R07_errors_l0 R07_errors_l0_b
    repeat (first | (with_reducible refine (e0 _ _).trans ?_) | (with_reducible refine (e1 _ _).trans ?_) | ((with_reducible refine go_ip (x := ?_) ?_ ?_); rotate_left 1; (first | ((with_reducible refine (hcell_new _ _ _).trans ?_); rfl) | exact m0 | exact m1 | exact m2 | exact m3 | exact m4 | rfl)) | ((with_reducible refine go_bp (x := ?_) ?_ ?_); rotate_left 1; (first | ((with_reducible refine (hcell_new _ _ _).trans ?_); rfl) | exact m0 | exact m1 | exact m2 | exact m3 | exact m4 | rfl)) | ((with_reducible refine go_lp (x := ?_) (l := ?_) (c := ?_) ?_ ?_); rotate_left 3; (first | ((with_reducible refine (hcell_new _ _ _).trans ?_); rfl) | exact m0 | exact m1 | exact m2 | exact m3 | exact m4 | rfl)) | ((with_reducible refine go_pp (x := ?_) ?_ ?_); rotate_left 1; (first | ((with_reducible refine (hcell_new _ _ _).trans ?_); rfl) | exact m0 | exact m1 | exact m2 | exact m3 | exact m4 | rfl)) | ((with_reducible refine go_i (x := ?_) ?_ ?_); rotate_left 1; (first | ((with_reducible refine (hcell_new _ _ _).trans ?_); rfl) | exact m0 | exact m1 | exact m2 | exact m3 | exact m4 | rfl)) | ((with_reducible refine go_b (x := ?_) ?_ ?_); rotate_left 1; (first | ((with_reducible refine (hcell_new _ _ _).trans ?_); rfl) | exact m0 | exact m1 | exact m2 | exact m3 | exact m4 | rfl)) | ((with_reducible refine go_l (x := ?_) (l := ?_) (c := ?_) ?_ ?_); rotate_left 3; (first | ((with_reducible refine (hcell_new _ _ _).trans ?_); rfl) | exact m0 | exact m1 | exact m2 | exact m3 | exact m4 | rfl)) | ((with_reducible refine go_p (x := ?_) ?_ ?_); rotate_left 1; (first | ((with_reducible refine (hcell_new _ _ _).trans ?_); rfl) | exact m0 | exact m1 | exact m2 | exact m3 | exact m4 | rfl)) | ((with_reducible refine go_halst rfl ?_ ?_ ?_); rfl; rfl) | (with_reducible refine go_halN rfl ?_) | (with_reducible refine go_t ed ?_) | (with_reducible refine go_f ed ?_) | ((with_reducible refine go_t ?_ ?_); (show _ = true; rfl)) | ((with_reducible refine go_f ?_ ?_); (show _ = false; rfl)) | (with_reducible refine go_ne ?_) | (with_reducible refine go_eq ?_) | (with_reducible refine go_fad ?_) | (with_reducible refine go_nil ?_))
    rw [w, e2]
    cases pv e.x0 e.y0 e.x1 e.y1 e.xs.length with
    | false => simp only [cond_false, List.append_nil]; rfl
    | true => simp only [List.append_assoc, cond_true, Bool.true_and]; rfl
theorem bounded_loop (k : Nat) (most : Int) {b : Nat} {q : Option Addr} {xs : List Int} (x0 y0 x1 y1 : Int) (c : Nat) (hl : xs.length ≤ 400) {H : Heap} (hS : Shows H q (ints xs)) (m4 : hcell H b (0 + 4) = some (.slice q xs.length c)) : ∀ (m n i : Nat), m < n → xs.length = i + m → ∀ (R : Type) (KE : Unit → Option R) (KR : Bool → Option R), R02_Bounded_l0 k KE KR n most (some ⟨b, 0, none⟩) (i : Int) H = bif okp most (xs.drop i) then KE () else KR false := by
  intro m
  induction m with
  | zero =>
    intro n i hn hi R KE KR
    obtain ⟨n, rfl⟩ : ∃ n', n = n' + 1 := ⟨n - 1, by omega⟩
    have ed : decide ((i : Int) < ((xs.length : Nat) : Int)) = false := decide_eq_false (by omega)
    rw [List.drop_of_length_le (by omega)]
    unfold R02_Bounded_l0 R02_Bounded_l0_b
    repeat (first | (with_reducible refine (e0 _ _).trans ?_) | ((with_reducible refine go_ip (x := ?_) ?_ ?_); rotate_left 1; (first | ((with_reducible refine (hcell_new _ _ _).trans ?_); rfl) | exact m4 | rfl)) | ((with_reducible refine go_bp (x := ?_) ?_ ?_); rotate_left 1; (first | ((with_reducible refine (hcell_new _ _ _).trans ?_); rfl) | exact m4 | rfl)) | ((with_reducible refine go_lp (x := ?_) (l := ?_) (c := ?_) ?_ ?_); rotate_left 3; (first | ((with_reducible refine (hcell_new _ _ _).trans ?_); rfl) | exact m4 | rfl)) | ((with_reducible refine go_pp (x := ?_) ?_ ?_); rotate_left 1; (first | ((with_reducible refine (hcell_new _ _ _).trans ?_); rfl) | exact m4 | rfl)) | ((with_reducible refine go_i (x := ?_) ?_ ?_); rotate_left 1; (first | ((with_reducible refine (hcell_new _ _ _).trans ?_); rfl) | exact m4 | rfl)) | ((with_reducible refine go_b (x := ?_) ?_ ?_); rotate_left 1; (first | ((with_reducible refine (hcell_new _ _ _).trans ?_); rfl) | exact m4 | rfl)) | ((with_reducible refine go_l (x := ?_) (l := ?_) (c := ?_) ?_ ?_); rotate_left 3; (first | ((with_reducible refine (hcell_new _ _ _).trans ?_); rfl) | exact m4 | rfl)) | ((with_reducible refine go_p (x := ?_) ?_ ?_); rotate_left 1; (first | ((with_reducible refine (hcell_new _ _ _).trans ?_); rfl) | exact m4 | rfl)) | ((with_reducible refine go_halst rfl ?_ ?_ ?_); rfl; rfl) | (with_reducible refine go_halN rfl ?_) | (with_reducible refine go_t ed ?_) | (with_reducible refine go_f ed ?_) | ((with_reducible refine go_t ?_ ?_); (show _ = true; rfl)) | ((with_reducible refine go_f ?_ ?_); (show _ = false; rfl)) | (with_reducible refine go_ne ?_) | (with_reducible refine go_eq ?_) | (with_reducible refine go_fad ?_) | (with_reducible refine go_nil ?_))
    rfl
  | succ m ih =>
    intro n i hn hi R KE KR
    obtain ⟨n, rfl⟩ : ∃ n', n = n' + 1 := ⟨n - 1, by omega⟩
    have ed : decide ((i : Int) < ((xs.length : Nat) : Int)) = true := decide_eq_true (by omega)
    obtain ⟨p, e1, l1⟩ := int_at hS (i := i) (by omega)
    rw [drop_int hi, show okp most (xs.getD i 0 :: xs.drop (i + 1)) = ((!decide (xs.getD i 0 > most) && !decide (xs.getD i 0 < IntKind.wrap .i64 (0 - most))) && okp most (xs.drop (i + 1))) from rfl]
    have w := wnext (i := i) (l := xs.length) (by omega) (by omega)
    unfold R02_Bounded_l0 R02_Bounded_l0_b R02_Bounded_p1 R02_Bounded_p1_b
    repeat (first | (with_reducible refine (e1 _ _).trans ?_) | (with_reducible refine (l1 _ _).trans ?_) | ((with_reducible refine go_ip (x := ?_) ?_ ?_); rotate_left 1; (first | ((with_reducible refine (hcell_new _ _ _).trans ?_); rfl) | exact m4 | rfl)) | ((with_reducible refine go_bp (x := ?_) ?_ ?_); rotate_left 1; (first | ((with_reducible refine (hcell_new _ _ _).trans ?_); rfl) | exact m4 | rfl)) | ((with_reducible refine go_lp (x := ?_) (l := ?_) (c := ?_) ?_ ?_); rotate_left 3; (first | ((with_reducible refine (hcell_new _ _ _).trans ?_); rfl) | exact m4 | rfl)) | ((with_reducible refine go_pp (x := ?_) ?_ ?_); rotate_left 1; (first | ((with_reducible refine (hcell_new _ _ _).trans ?_); rfl) | exact m4 | rfl)) | ((with_reducible refine go_i (x := ?_) ?_ ?_); rotate_left 1; (first | ((with_reducible refine (hcell_new _ _ _).trans ?_); rfl) | exact m4 | rfl)) | ((with_reducible refine go_b (x := ?_) ?_ ?_); rotate_left 1; (first | ((with_reducible refine (hcell_new _ _ _).trans ?_); rfl) | exact m4 | rfl)) | ((with_reducible refine go_l (x := ?_) (l := ?_) (c := ?_) ?_ ?_); rotate_left 3; (first | ((with_reducible refine (hcell_new _ _ _).trans ?_); rfl) | exact m4 | rfl)) | ((with_reducible refine go_p (x := ?_) ?_ ?_); rotate_left 1; (first | ((with_reducible refine (hcell_new _ _ _).trans ?_); rfl) | exact m4 | rfl)) | ((with_reducible refine go_halst rfl ?_ ?_ ?_); rfl; rfl) | (with_reducible refine go_halN rfl ?_) | (with_reducible refine go_t ed ?_) | (with_reducible refine go_f ed ?_) | ((with_reducible refine go_t ?_ ?_); (show _ = true; rfl)) | ((with_reducible refine go_f ?_ ?_); (show _ = false; rfl)) | (with_reducible refine go_ne ?_) | (with_reducible refine go_eq ?_) | (with_reducible refine go_fad ?_) | (with_reducible refine go_nil ?_))
    cases ha : decide (xs.getD i 0 < IntKind.wrap .i64 (0 - most)) with
    | true => cases decide (xs.getD i 0 > most) <;> rfl
    | false =>
      refine go_f rfl ?_
      repeat (first | (with_reducible refine (e1 _ _).trans ?_) | (with_reducible refine (l1 _ _).trans ?_) | ((with_reducible refine go_ip (x := ?_) ?_ ?_); rotate_left 1; (first | ((with_reducible refine (hcell_new _ _ _).trans ?_); rfl) | exact m4 | rfl)) | ((with_reducible refine go_bp (x := ?_) ?_ ?_); rotate_left 1; (first | ((with_reducible refine (hcell_new _ _ _).trans ?_); rfl) | exact m4 | rfl)) | ((with_reducible refine go_lp (x := ?_) (l := ?_) (c := ?_) ?_ ?_); rotate_left 3; (first | ((with_reducible refine (hcell_new _ _ _).trans ?_); rfl) | exact m4 | rfl)) | ((with_reducible refine go_pp (x := ?_) ?_ ?_); rotate_left 1; (first | ((with_reducible refine (hcell_new _ _ _).trans ?_); rfl) | exact m4 | rfl)) | ((with_reducible refine go_i (x := ?_) ?_ ?_); rotate_left 1; (first | ((with_reducible refine (hcell_new _ _ _).trans ?_); rfl) | exact m4 | rfl)) | ((with_reducible refine go_b (x := ?_) ?_ ?_); rotate_left 1; (first | ((with_reducible refine (hcell_new _ _ _).trans ?_); rfl) | exact m4 | rfl)) | ((with_reducible refine go_l (x := ?_) (l := ?_) (c := ?_) ?_ ?_); rotate_left 3; (first | ((with_reducible refine (hcell_new _ _ _).trans ?_); rfl) | exact m4 | rfl)) | ((with_reducible refine go_p (x := ?_) ?_ ?_); rotate_left 1; (first | ((with_reducible refine (hcell_new _ _ _).trans ?_); rfl) | exact m4 | rfl)) | ((with_reducible refine go_halst rfl ?_ ?_ ?_); rfl; rfl) | (with_reducible refine go_halN rfl ?_) | (with_reducible refine go_t ed ?_) | (with_reducible refine go_f ed ?_) | ((with_reducible refine go_t ?_ ?_); (show _ = true; rfl)) | ((with_reducible refine go_f ?_ ?_); (show _ = false; rfl)) | (with_reducible refine go_ne ?_) | (with_reducible refine go_eq ?_) | (with_reducible refine go_fad ?_) | (with_reducible refine go_nil ?_))
      cases hb : decide (xs.getD i 0 > most) with
      | true => rfl
      | false =>
        refine go_f rfl ?_
        refine Eq.trans ?_ (ih n (i + 1) (by omega) (by omega) R KE KR)
        show R02_Bounded_l0 k KE KR n most (some ⟨b, 0, none⟩) (IntKind.wrap .i64 ((i : Int) + 1)) H = _
        rw [w]
theorem boundedP_eq (k : Nat) (hk : 400 < k) (most : Int) {q : Option Addr} {xs : List Int} (x0 y0 x1 y1 : Int) (c : Nat) (hl : xs.length ≤ 400) {H : Heap} (hS : Shows H q (ints xs)) : ∃ J, ∀ (R : Type) (K : Bool → Heap → Option R), R02_Bounded k x0 y0 x1 y1 q xs.length c most H K = K (okp most xs) (H ++ J) := by
  have e := bounded_loop (b := H.length) k most x0 y0 x1 y1 c hl (hS.keep (Old.app H [some ⟨[.int .i64 x0, .int .i64 y0, .int .i64 x1, .int .i64 y1, .slice q xs.length c], false, 0⟩])) (hcell_new _ _ _) xs.length k 0 (by omega) (by omega)
  simp only [Int.natCast_zero, List.drop_zero] at e
  refine ⟨[some ⟨[.int .i64 x0, .int .i64 y0, .int .i64 x1, .int .i64 y1, .slice q xs.length c], false, 0⟩], fun R K => ?_⟩
  unfold R02_Bounded R02_Bounded_b
  refine go_hal ?_
  refine (e _ _ _).trans ?_
  cases okp most xs <;> rfl
theorem errors_l2 (k : Nat) (hk : 400 < k) (most : Int) {q : Option Addr} {es a : List Pr} (c : Nat) (ha : a.length = 3) (hae : ∀ (i : Nat) (e : Pr), a[i]? = some e → es[i]? = some e) (hx : ∀ e ∈ a, e.xs.length ≤ 400) : ∀ (m n i : Nat), m < n → a.length = i + m → ∀ (H : Heap), Pls H q es → ∃ J, ∀ (R : Type) (KE : Heap → Option R) (KR : Int → Heap → Option R), R07_errors_l2 k KE KR n q es.length c most (i : Int) H = bif (a.drop i).all (fun e => okp most e.xs) then KE (H ++ J) else KR 2 (H ++ J) := by
  intro m
  induction m with
  | zero =>
    intro n i hn hi H hP
    obtain ⟨n, rfl⟩ : ∃ n', n = n' + 1 := ⟨n - 1, by omega⟩
    refine ⟨[], fun R KE KR => ?_⟩
    have ed : decide ((i : Int) < 3) = false := decide_eq_false (by omega)
    rw [List.drop_of_length_le (by omega), List.append_nil]
    simp only [R07_errors_l2, R07_errors_l2_b, ed, cond_false]
    rfl
  | succ m ih =>
    intro n i hn hi H hP
    obtain ⟨n, rfl⟩ : ∃ n', n = n' + 1 := ⟨n - 1, by omega⟩
    have ed : decide ((i : Int) < 3) = true := decide_eq_true (by omega)
    obtain ⟨e, he, hd⟩ := get_of hi
    obtain ⟨b, o, e0, m0, m1, m2, m3, m4, hS⟩ := hP.at (hae i e he)
    obtain ⟨J1, e1⟩ := boundedP_eq k hk most e.x0 e.y0 e.x1 e.y1 e.c (hx e (List.mem_of_getElem? he)) hS
    obtain ⟨J2, e2⟩ := ih n (i + 1) (by omega) (by omega) (H ++ J1) hP.app
    have w := wnext (i := i) (l := 3) (by omega) (by omega)
    rw [hd, List.all_cons]
    refine ⟨J1 ++ bif okp most e.xs then J2 else [], fun R KE KR => ?_⟩
    unfold R07_errors_l2 R07_errors_l2_b
    repeat (first | (with_reducible refine (e0 _ _).trans ?_) | (with_reducible refine (e1 _ _).trans ?_) | ((with_reducible refine go_ip (x := ?_) ?_ ?_); rotate_left 1; (first | ((with_reducible refine (hcell_new _ _ _).trans ?_); rfl) | exact m0 | exact m1 | exact m2 | exact m3 | exact m4 | rfl)) | ((with_reducible refine go_bp (x := ?_) ?_ ?_); rotate_left 1; (first | ((with_reducible refine (hcell_new _ _ _).trans ?_); rfl) | exact m0 | exact m1 | exact m2 | exact m3 | exact m4 | rfl)) | ((with_reducible refine go_lp (x := ?_) (l := ?_) (c := ?_) ?_ ?_); rotate_left 3; (first | ((with_reducible refine (hcell_new _ _ _).trans ?_); rfl) | exact m0 | exact m1 | exact m2 | exact m3 | exact m4 | rfl)) | ((with_reducible refine go_pp (x := ?_) ?_ ?_); rotate_left 1; (first | ((with_reducible refine (hcell_new _ _ _).trans ?_); rfl) | exact m0 | exact m1 | exact m2 | exact m3 | exact m4 | rfl)) | ((with_reducible refine go_i (x := ?_) ?_ ?_); rotate_left 1; (first | ((with_reducible refine (hcell_new _ _ _).trans ?_); rfl) | exact m0 | exact m1 | exact m2 | exact m3 | exact m4 | rfl)) | ((with_reducible refine go_b (x := ?_) ?_ ?_); rotate_left 1; (first | ((with_reducible refine (hcell_new _ _ _).trans ?_); rfl) | exact m0 | exact m1 | exact m2 | exact m3 | exact m4 | rfl)) | ((with_reducible refine go_l (x := ?_) (l := ?_) (c := ?_) ?_ ?_); rotate_left 3; (first | ((with_reducible refine (hcell_new _ _ _).trans ?_); rfl) | exact m0 | exact m1 | exact m2 | exact m3 | exact m4 | rfl)) | ((with_reducible refine go_p (x := ?_) ?_ ?_); rotate_left 1; (first | ((with_reducible refine (hcell_new _ _ _).trans ?_); rfl) | exact m0 | exact m1 | exact m2 | exact m3 | exact m4 | rfl)) | ((with_reducible refine go_halst rfl ?_ ?_ ?_); rfl; rfl) | (with_reducible refine go_halN rfl ?_) | (with_reducible refine go_t ed ?_) | (with_reducible refine go_f ed ?_) | ((with_reducible refine go_t ?_ ?_); (show _ = true; rfl)) | ((with_reducible refine go_f ?_ ?_); (show _ = false; rfl)) | (with_reducible refine go_ne ?_) | (with_reducible refine go_eq ?_) | (with_reducible refine go_fad ?_) | (with_reducible refine go_nil ?_))
    rw [w, e2]
    cases okp most e.xs with
    | false => simp only [cond_false, List.append_nil]; rfl
    | true => simp only [List.append_assoc, cond_true, Bool.true_and]; rfl
theorem errors_eq {k : Nat} (hk : 500 < k) (t most : Int) {H : Heap} {q : Option Addr} {es : List Pr} (c : Nat) (hkl : es.length < k) (hl : es.length ≤ 9223372036854775807) (hP : Pls H q es) (hx : ∀ e ∈ es, e.xs.length ≤ 400) : ∃ J, ∀ (R : Type) (K : Int → Heap → Option R), R07_errors k t q es.length c most H K = K (errv t es most) (H ++ J) := by
  unfold R07_errors R07_errors_b errv
  cases h1 : kn t with
  | false =>
    refine ⟨[], fun R K => ?_⟩
    rw [knownR_eq, h1, List.append_nil]
    rfl
  | true =>
    have h1' : (!kn t) = false := by rw [h1]; rfl
    obtain ⟨J1, e1⟩ := errors_l0 k t most c hl es.length k 0 hkl (by omega) H hP
    simp only [Int.natCast_zero, List.drop_zero] at e1
    cases h2 : es.all pvE with
    | false =>
      refine ⟨J1, fun R K => ?_⟩
      rw [h2] at e1
      rw [knownR_eq]
      refine go_f h1' ?_
      exact e1 _ _ _
    | true =>
      rw [h2] at e1
      simp only [cond_true] at e1
      cases h3 : t == 0 with
      | true =>
        refine ⟨J1, fun R K => ?_⟩
        rw [knownR_eq]
        refine go_f h1' ?_
        refine (e1 _ _ _).trans ?_
        exact go_t h3 rfl
      | false =>
        by_cases h4 : es.length < 3
        · refine ⟨J1, fun R K => ?_⟩
          rw [knownR_eq]
          refine go_f h1' ?_
          refine (e1 _ _ _).trans ?_
          refine go_f h3 ?_
          refine go_t (decide_eq_true (by omega)) ?_
          match es, h4 with
          | [], _ => rfl
          | [_], _ => rfl
          | [_, _], _ => rfl
        · obtain ⟨f0, f1, f2, r, rfl⟩ := three (es := es) (by omega)
          have hP1 : Pls (H ++ J1) q (f0 :: f1 :: f2 :: r) := hP.app
          obtain ⟨b0, o0, a0, m00, m01, m02, m03, m04, _⟩ := hP1.at (i := 0) (e := f0) rfl
          obtain ⟨b1, o1, a1, m10, m11, m12, m13, m14, _⟩ := hP1.at (i := 1) (e := f1) rfl
          obtain ⟨b2, o2, a2, m20, m21, m22, m23, m24, _⟩ := hP1.at (i := 2) (e := f2) rfl
          obtain ⟨J3, e6⟩ := errors_l2 (es := f0 :: f1 :: f2 :: r) (a := [f0, f1, f2]) k (by omega) most c rfl (fun i e h => by match i, h with | 0, h => exact h | 1, h => exact h | 2, h => exact h | (i + 3), h => simp at h) (fun e he => hx e (by simp only [List.mem_cons, List.not_mem_nil, or_false] at he ⊢; rcases he with h | h | h <;> simp [h])) 3 k 0 (by omega) (by simp) (H ++ J1) hP1
          simp only [Int.natCast_zero, List.drop_zero] at e6 a0
          rw [show ((1 : Nat) : Int) = 1 from rfl] at a1
          rw [show ((2 : Nat) : Int) = 2 from rfl] at a2
          have h4' : decide (((((f0 :: f1 :: f2 :: r).length : Nat) : Int)) < 3) = false := decide_eq_false (by omega)
          have hall : ([f0, f1, f2].all fun e => rq e f0) = (rq f0 f1 && rq f0 f2) := by
            rw [rq_comm f0 f1, rq_comm f0 f2]
            simp only [List.all_cons, List.all_nil, Bool.and_true]
            rw [show rq f0 f0 = true from rq_self f0, Bool.true_and]
          simp only [err3]
          rw [hall]
          refine ⟨J1 ++ bif (rq f0 f1 && rq f0 f2) then J3 else [], fun R K => ?_⟩
          rw [knownR_eq]
          refine go_f h1' ?_
          refine (e1 _ _ _).trans ?_
          refine go_f h3 ?_
          refine go_f h4' ?_
          unfold R07_errors_p1 R07_errors_p1_b
          repeat (first | (with_reducible refine (a0 _ _).trans ?_) | (with_reducible refine (a1 _ _).trans ?_) | ((with_reducible refine go_ip (x := ?_) ?_ ?_); rotate_left 1; (first | ((with_reducible refine (hcell_new _ _ _).trans ?_); rfl) | exact m00 | exact m01 | exact m02 | exact m03 | exact m10 | exact m11 | exact m12 | exact m13 | rfl)) | ((with_reducible refine go_bp (x := ?_) ?_ ?_); rotate_left 1; (first | ((with_reducible refine (hcell_new _ _ _).trans ?_); rfl) | exact m00 | exact m01 | exact m02 | exact m03 | exact m10 | exact m11 | exact m12 | exact m13 | rfl)) | ((with_reducible refine go_lp (x := ?_) (l := ?_) (c := ?_) ?_ ?_); rotate_left 3; (first | ((with_reducible refine (hcell_new _ _ _).trans ?_); rfl) | exact m00 | exact m01 | exact m02 | exact m03 | exact m10 | exact m11 | exact m12 | exact m13 | rfl)) | ((with_reducible refine go_pp (x := ?_) ?_ ?_); rotate_left 1; (first | ((with_reducible refine (hcell_new _ _ _).trans ?_); rfl) | exact m00 | exact m01 | exact m02 | exact m03 | exact m10 | exact m11 | exact m12 | exact m13 | rfl)) | ((with_reducible refine go_i (x := ?_) ?_ ?_); rotate_left 1; (first | ((with_reducible refine (hcell_new _ _ _).trans ?_); rfl) | exact m00 | exact m01 | exact m02 | exact m03 | exact m10 | exact m11 | exact m12 | exact m13 | rfl)) | ((with_reducible refine go_b (x := ?_) ?_ ?_); rotate_left 1; (first | ((with_reducible refine (hcell_new _ _ _).trans ?_); rfl) | exact m00 | exact m01 | exact m02 | exact m03 | exact m10 | exact m11 | exact m12 | exact m13 | rfl)) | ((with_reducible refine go_l (x := ?_) (l := ?_) (c := ?_) ?_ ?_); rotate_left 3; (first | ((with_reducible refine (hcell_new _ _ _).trans ?_); rfl) | exact m00 | exact m01 | exact m02 | exact m03 | exact m10 | exact m11 | exact m12 | exact m13 | rfl)) | ((with_reducible refine go_p (x := ?_) ?_ ?_); rotate_left 1; (first | ((with_reducible refine (hcell_new _ _ _).trans ?_); rfl) | exact m00 | exact m01 | exact m02 | exact m03 | exact m10 | exact m11 | exact m12 | exact m13 | rfl)) | ((with_reducible refine go_halst rfl ?_ ?_ ?_); rfl; rfl) | (with_reducible refine go_halN rfl ?_) | ((with_reducible refine go_t ?_ ?_); (show _ = true; rfl)) | ((with_reducible refine go_f ?_ ?_); (show _ = false; rfl)) | (with_reducible refine go_ne ?_) | (with_reducible refine go_eq ?_) | (with_reducible refine go_fad ?_) | (with_reducible refine go_nil ?_))
          cases r1 : rq f0 f1 with
          | false =>
            have r1' : (!(rq f0 f1)) = true := by rw [r1]; rfl
            refine go_t r1' ?_
            simp only [Bool.false_and, cond_false, List.append_nil]; rfl
          | true =>
            have r1' : (!(rq f0 f1)) = false := by rw [r1]; rfl
            refine go_f r1' ?_
            repeat (first | (with_reducible refine (a0 _ _).trans ?_) | (with_reducible refine (a2 _ _).trans ?_) | ((with_reducible refine go_ip (x := ?_) ?_ ?_); rotate_left 1; (first | ((with_reducible refine (hcell_new _ _ _).trans ?_); rfl) | exact m00 | exact m01 | exact m02 | exact m03 | exact m20 | exact m21 | exact m22 | exact m23 | rfl)) | ((with_reducible refine go_bp (x := ?_) ?_ ?_); rotate_left 1; (first | ((with_reducible refine (hcell_new _ _ _).trans ?_); rfl) | exact m00 | exact m01 | exact m02 | exact m03 | exact m20 | exact m21 | exact m22 | exact m23 | rfl)) | ((with_reducible refine go_lp (x := ?_) (l := ?_) (c := ?_) ?_ ?_); rotate_left 3; (first | ((with_reducible refine (hcell_new _ _ _).trans ?_); rfl) | exact m00 | exact m01 | exact m02 | exact m03 | exact m20 | exact m21 | exact m22 | exact m23 | rfl)) | ((with_reducible refine go_pp (x := ?_) ?_ ?_); rotate_left 1; (first | ((with_reducible refine (hcell_new _ _ _).trans ?_); rfl) | exact m00 | exact m01 | exact m02 | exact m03 | exact m20 | exact m21 | exact m22 | exact m23 | rfl)) | ((with_reducible refine go_i (x := ?_) ?_ ?_); rotate_left 1; (first | ((with_reducible refine (hcell_new _ _ _).trans ?_); rfl) | exact m00 | exact m01 | exact m02 | exact m03 | exact m20 | exact m21 | exact m22 | exact m23 | rfl)) | ((with_reducible refine go_b (x := ?_) ?_ ?_); rotate_left 1; (first | ((with_reducible refine (hcell_new _ _ _).trans ?_); rfl) | exact m00 | exact m01 | exact m02 | exact m03 | exact m20 | exact m21 | exact m22 | exact m23 | rfl)) | ((with_reducible refine go_l (x := ?_) (l := ?_) (c := ?_) ?_ ?_); rotate_left 3; (first | ((with_reducible refine (hcell_new _ _ _).trans ?_); rfl) | exact m00 | exact m01 | exact m02 | exact m03 | exact m20 | exact m21 | exact m22 | exact m23 | rfl)) | ((with_reducible refine go_p (x := ?_) ?_ ?_); rotate_left 1; (first | ((with_reducible refine (hcell_new _ _ _).trans ?_); rfl) | exact m00 | exact m01 | exact m02 | exact m03 | exact m20 | exact m21 | exact m22 | exact m23 | rfl)) | ((with_reducible refine go_halst rfl ?_ ?_ ?_); rfl; rfl) | (with_reducible refine go_halN rfl ?_) | ((with_reducible refine go_t ?_ ?_); (show _ = true; rfl)) | ((with_reducible refine go_f ?_ ?_); (show _ = false; rfl)) | (with_reducible refine go_ne ?_) | (with_reducible refine go_eq ?_) | (with_reducible refine go_fad ?_) | (with_reducible refine go_nil ?_))
            cases r2 : rq f0 f2 with
            | false =>
              have r2' : (!(rq f0 f2)) = true := by rw [r2]; rfl
              refine go_t r2' ?_
              simp only [Bool.and_false, cond_false, List.append_nil]; rfl
            | true =>
              have r2' : (!(rq f0 f2)) = false := by rw [r2]; rfl
              refine go_f r2' ?_
              refine (e6 _ _ _).trans ?_
              simp only [Bool.and_self, cond_true, List.append_assoc]
              cases [f0, f1, f2].all (fun e => okp most e.xs) <;> rfl
end Go.Proofs.Ytoeoolnkndkefaa.Sh
