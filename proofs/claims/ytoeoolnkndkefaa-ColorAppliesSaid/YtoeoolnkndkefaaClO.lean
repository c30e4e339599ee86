/- Color: what Apply and Undo need of a list without errors. -/
import Derived.Test.YtoeoolnkndkefaaClK35
import Derived.Test.YtoeoolnkndkefaaClShifts
set_option linter.unusedVariables false
set_option linter.unusedSimpArgs false
namespace Go.Proofs.Ytoeoolnkndkefaa.Sh
open Go.Proofs.Ytoeoolnkndkefaa.FW
theorem err3_zero {most : Int} {es : List Pr} (h : err3 most es = 0) : ∃ e0 e1 e2 r, es = e0 :: e1 :: e2 :: r ∧ rq e1 e0 = true ∧ rq e2 e0 = true ∧ okp most e0.xs = true ∧ okp most e1.xs = true ∧ okp most e2.xs = true := by
  match es, h with
  | e0 :: e1 :: e2 :: r, h =>
    refine ⟨e0, e1, e2, r, rfl, ?_⟩
    simp only [err3] at h
    cases h1 : [e0, e1, e2].all (fun e => rq e e0) with
    | false => rw [h1] at h; exact absurd (show (1 : Int) = 0 from h) (by decide)
    | true =>
      cases h2 : [e0, e1, e2].all (fun e => okp most e.xs) with
      | false => rw [h1, h2] at h; exact absurd (show (2 : Int) = 0 from h) (by decide)
      | true =>
        simp only [List.all_cons, List.all_nil, Bool.and_true, Bool.and_eq_true] at h1 h2
        obtain ⟨_, r1, r2⟩ := h1
        obtain ⟨k0, k1, k2⟩ := h2
        exact ⟨by simpa [rq] using r1, by simpa [rq] using r2, k0, k1, k2⟩
theorem errv_zero {t most : Int} {es : List Pr} (h : errv t es most = 0) : kn t = true ∧ es.all pvE = true ∧ ((t == 0) = false → err3 most es = 0) := by
  unfold errv at h
  cases h1 : kn t with
  | false => rw [h1] at h; exact absurd (show (3 : Int) = 0 from h) (by decide)
  | true =>
    cases h2 : es.all pvE with
    | false => rw [h1, h2] at h; exact absurd (show (1 : Int) = 0 from h) (by decide)
    | true =>
      refine ⟨rfl, rfl, fun h3 => ?_⟩
      rw [h1, h2, h3] at h
      exact h
theorem pv_len {e : Pr} (h : pvE e = true) : ((e.xs.length : Nat) : Int) = ra e.x0 e.y0 e.x1 e.y1 := by
  unfold pvE pv at h
  simp only [Bool.and_eq_true, beq_iff_eq] at h
  exact h.2.2
theorem rq_ra {e f : Pr} (h : rq e f = true) : e.x0 = f.x0 ∧ e.y0 = f.y0 ∧ e.x1 = f.x1 ∧ e.y1 = f.y1 := by
  simp only [rq, Bool.and_eq_true, beq_iff_eq, true_and] at h
  exact ⟨h.1.1.1, h.1.1.2, h.1.2, h.2⟩
theorem len3 {t most : Int} {es : List Pr} (h : errv t es most = 0) (ht : (t == 0) = false) : 3 ≤ es.length ∧ ∃ n, ∀ e ∈ es.take 3, e.xs.length = n := by
  obtain ⟨_, hv, h3⟩ := errv_zero h
  obtain ⟨e0, e1, e2, r, rfl, r1, r2, _⟩ := err3_zero (h3 ht)
  refine ⟨by simp, e0.xs.length, fun e he => ?_⟩
  rw [List.all_eq_true] at hv
  have v0 := pv_len (hv e0 (by simp))
  have v1 := pv_len (hv e1 (by simp))
  have v2 := pv_len (hv e2 (by simp))
  obtain ⟨a0, a1, a2, a3⟩ := rq_ra r1
  obtain ⟨b0, b1, b2, b3⟩ := rq_ra r2
  rw [a0, a1, a2, a3] at v1
  rw [b0, b1, b2, b3] at v2
  simp only [List.take_succ_cons, List.take_zero, List.mem_cons, List.not_mem_nil, or_false] at he
  rcases he with rfl | rfl | rfl <;> omega
theorem okp_of {most : Int} (h0 : 0 ≤ most) (h1 : most ≤ 9223372036854775807) {xs : List Int} (h : okp most xs = true) (i : Nat) : -most ≤ xs.getD i 0 ∧ xs.getD i 0 ≤ most := by
  rw [List.getD_eq_getElem?_getD]
  cases hg : xs[i]? with
  | none => simp only [Option.getD_none]; omega
  | some v =>
    have hm := List.mem_of_getElem? hg
    unfold okp at h
    rw [List.all_eq_true] at h
    have := h v hm
    rw [w64 (by omega) (by omega)] at this
    simp only [Bool.and_eq_true, Bool.not_eq_true', decide_eq_false_iff_not] at this
    simp only [Option.getD_some]; omega
/-- Lists of planes that came in. -/
theorem planes_of {H : Heap} : ∀ (es : List (List Value)), (∀ e ∈ es, Shp dPlane H e) → ∃ ps : List Pr, ps.length = es.length ∧ es.flatten = cellsOf ps ∧ ∀ p ∈ ps, Shows H p.q (ints p.xs) := by
  intro es
  induction es with
  | nil => intro _; exact ⟨[], rfl, rfl, fun p hp => by cases hp⟩
  | cons e es ih =>
    intro h
    obtain ⟨ps, h1, h2, h3⟩ := ih fun x hx => h x (List.mem_cons_of_mem _ hx)
    obtain ⟨x0, y0, x1, y1, q, xs, c, he, hS, _⟩ := plane_of (h e (by simp))
    refine ⟨⟨x0, y0, x1, y1, xs, q, c⟩ :: ps, by simp [h1], by rw [List.flatten_cons, h2, he]; rfl, fun p hp => ?_⟩
    rcases List.mem_cons.1 hp with rfl | hp
    · exact hS
    · exact h3 p hp
theorem fewp_of {es : List Pr} (h : fewp es = true) : ∀ e ∈ es, e.xs.length ≤ 400 := by
  intro e he
  unfold fewp at h
  rw [List.all_eq_true] at h
  exact of_decide_eq_true (h e he)
theorem trp_len {f : Int → Int → Int → Int × Int × Int} {t : Int} {l : List PL} (h : ∀ p ∈ l, p.2.2.2.2.length ≤ 400) : ∀ p ∈ trp f t l, p.2.2.2.2.length ≤ 400 := by
  intro p hp
  unfold trp at hp
  cases ht : t == 0 with
  | true => rw [ht] at hp; exact h p hp
  | false =>
    rw [ht] at hp
    simp only [cond_false] at hp
    unfold trq at hp
    split at hp
    · rename_i a0 a1 a2 a3 X b0 b1 b2 b3 Y c0 c1 c2 c3 Z r
      have hX := h (a0, a1, a2, a3, X) (by simp)
      simp only [List.mem_cons] at hp
      rcases hp with rfl | rfl | rfl | hp
      · simpa [tr3] using hX
      · simpa [tr3] using hX
      · simpa [tr3] using hX
      · exact h p (by simp [hp])
    · exact h p hp
theorem Apply_ok {k : Nat} (hk : 500 < k) {t : Int} {H : Heap} {q : Option Addr} {es : List Pr} (c : Nat) (hP : Pls H q es) (hl : es.length ≤ 6) (hx : ∀ e ∈ es, e.xs.length ≤ 400) (hC : CapOk q es.length c) (he : errv t es 1048576 = 0) : ∃ N H' q2 c2 outs, (∀ (R : Type) (K : Option Addr → Nat → Nat → Int → Heap → Option R), color_Apply k t q es.length c H K = K q2 es.length c2 0 H') ∧ Outs N H' q2 es.length c2 outs ∧ outs.map Pr.pl = trp (fwd t) t (es.map Pr.pl) ∧ Old H.length H H' := by
  obtain ⟨J, e1⟩ := check_eq hk t 1048576 c (by omega) (by omega) hP hx hC
  obtain ⟨H', q2, c2, outs, e2, r1, r2, r3⟩ := change_v35_eq hk t c (hP.app (J := J)) hl hx (len3 he)
  refine ⟨_, H', q2, c2, outs, fun R K => ?_, r1, r2, (Old.app H J).trans (r3.mono (by simp))⟩
  unfold color_Apply color_Apply_b
  rw [he] at e1
  repeat (first | (with_reducible refine (e1 _ _).trans ?_) | (with_reducible refine (e2 _ _).trans ?_) | ((with_reducible refine go_ip (x := ?_) ?_ ?_); rotate_left 1; (first | ((with_reducible refine (hcell_new _ _ _).trans ?_); rfl) | rfl)) | ((with_reducible refine go_bp (x := ?_) ?_ ?_); rotate_left 1; (first | ((with_reducible refine (hcell_new _ _ _).trans ?_); rfl) | rfl)) | ((with_reducible refine go_lp (x := ?_) (l := ?_) (c := ?_) ?_ ?_); rotate_left 3; (first | ((with_reducible refine (hcell_new _ _ _).trans ?_); rfl) | rfl)) | ((with_reducible refine go_pp (x := ?_) ?_ ?_); rotate_left 1; (first | ((with_reducible refine (hcell_new _ _ _).trans ?_); rfl) | rfl)) | ((with_reducible refine go_i (x := ?_) ?_ ?_); rotate_left 1; (first | ((with_reducible refine (hcell_new _ _ _).trans ?_); rfl) | rfl)) | ((with_reducible refine go_b (x := ?_) ?_ ?_); rotate_left 1; (first | ((with_reducible refine (hcell_new _ _ _).trans ?_); rfl) | rfl)) | ((with_reducible refine go_l (x := ?_) (l := ?_) (c := ?_) ?_ ?_); rotate_left 3; (first | ((with_reducible refine (hcell_new _ _ _).trans ?_); rfl) | rfl)) | ((with_reducible refine go_p (x := ?_) ?_ ?_); rotate_left 1; (first | ((with_reducible refine (hcell_new _ _ _).trans ?_); rfl) | rfl)) | ((with_reducible refine go_halst rfl ?_ ?_ ?_); rfl; rfl) | (with_reducible refine go_halN rfl ?_) | ((with_reducible refine go_t ?_ ?_); (show _ = true; rfl)) | ((with_reducible refine go_f ?_ ?_); (show _ = false; rfl)) | (with_reducible refine go_ne ?_) | (with_reducible refine go_eq ?_) | (with_reducible refine go_fad ?_) | (with_reducible refine go_nil ?_))
  rfl
theorem Apply_bad {k : Nat} (hk : 500 < k) {t : Int} {H : Heap} {q : Option Addr} {es : List Pr} (c : Nat) (hP : Pls H q es) (hl : es.length ≤ 6) (hx : ∀ e ∈ es, e.xs.length ≤ 400) (hC : CapOk q es.length c) (he : errv t es 1048576 ≠ 0) : ∃ J, ∀ (R : Type) (K : Option Addr → Nat → Nat → Int → Heap → Option R), color_Apply k t q es.length c H K = K none 0 0 (errv t es 1048576) (H ++ J) := by
  obtain ⟨J, e1⟩ := check_eq hk t 1048576 c (by omega) (by omega) hP hx hC
  refine ⟨J, fun R K => ?_⟩
  unfold color_Apply color_Apply_b
  refine (e1 _ _).trans ?_
  exact go_t (by simpa using he) rfl
end Go.Proofs.Ytoeoolnkndkefaa.Sh
