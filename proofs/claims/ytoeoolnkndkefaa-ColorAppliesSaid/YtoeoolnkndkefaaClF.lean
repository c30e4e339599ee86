/- Color: Unshift, the program's. -/
import Derived.Test.YtoeoolnkndkefaaClE
set_option linter.unusedVariables false
set_option linter.unusedSimpArgs false
namespace Go.Proofs.Ytoeoolnkndkefaa.Sh
open Go.Proofs.Ytoeoolnkndkefaa.FW
def unv (d : Int) (s : Bool) (v : Int) : Int := W (imn (imx v (W (lo d s - off d s))) (W (hi d s - off d s)) + off d s)
/-- What Unshift returns: the error and the samples. -/
def usf (x0 y0 x1 y1 : Int) (xs : List Int) (d : Int) (s : Bool) : Int × List Int :=
  bif pv x0 y0 x1 y1 xs.length then (bif dp d then (0, xs.map (unv d s)) else (12, [])) else (1, [])
section
variable {d : Int} {s : Bool} {x y x0 y0 x1 y1 : Int}
theorem unshift_loop (k : Nat) {N : Nat} {xs : List Int} {q : Option Addr} (c : Nat) {br bp bd : Nat} (h2 : bd ≠ br) (h3 : bd ≠ bp) (nd : N ≤ bd) (nr : N ≤ br) (hq : ints xs = [] ∨ Below N q) (hl : xs.length ≤ 2000000) :
    ∀ (m n i : Nat), m < n → xs.length = i + m → ∀ (H : Heap), Shows H q (ints xs) → Owns H br zero5 0 → Sees H bp (pl5 x0 y0 x1 y1 (some ⟨bd, 0, none⟩) xs.length xs.length) → OwnV H bd xs.length (done (unv d s) xs i) → N ≤ H.length →
    ∃ H', Old N H H' ∧ Owns H' br zero5 0 ∧ (∀ (R : Type) (KE : Option Addr → Option Addr → Heap → Option R), color_Unshift_l0 k KE n (some ⟨br, 0, none⟩) (lo d s) (hi d s) (off d s) (some ⟨bp, 0, none⟩) q xs.length c ((xs.length : Nat) : Int) (i : Int) H = KE (some ⟨br, 0, none⟩) (some ⟨bp, 0, none⟩) H') ∧
          Sees H' bp (pl5 x0 y0 x1 y1 (some ⟨bd, 0, none⟩) xs.length xs.length) ∧ OwnV H' bd xs.length (done (unv d s) xs xs.length) := by
  intro m
  induction m with
  | zero =>
    intro n i hn hi' H hS hR hP hD hN
    obtain ⟨n, rfl⟩ : ∃ n', n = n' + 1 := ⟨n - 1, by omega⟩
    have hi0 : xs.length = i := by omega
    refine ⟨H, .refl _ _, hR, fun R KE => ?_, hP, by rw [← hi0] at hD; exact hD⟩
    have ed : decide ((i : Int) < ((xs.length : Nat) : Int)) = false := decide_eq_false (by omega)
    simp only [color_Unshift_l0, color_Unshift_l0_b, ed, cond_false]
  | succ m ih =>
    intro n i hn hi' H hS hR hP hD hN
    obtain ⟨n, rfl⟩ : ∃ n', n = n' + 1 := ⟨n - 1, by omega⟩
    have hlt : i < xs.length := by omega
    have ed : decide ((i : Int) < ((xs.length : Nat) : Int)) = true := decide_eq_true (by omega)
    obtain ⟨p, e1, l1⟩ := int_at hS hlt
    obtain ⟨H1, e4, O4, b4, n4⟩ := hD.put hlt (.int .i64 (unv d s (xs.getD i 0)))
    have hD1 : OwnV H1 bd xs.length (done (unv d s) xs (i + 1)) := O4.congr fun j hj => done_next (unv d s) xs i j
    have o1 := b4.old nd hN
    obtain ⟨H', o', R', h1', h2', h3'⟩ := ih n (i + 1) (by omega) (by omega) H1 (hS.old o1 hq) (hR.but b4 (Ne.symm h2)) (hP.but b4 (Ne.symm h3)) hD1 (by omega)
    have mp := hP.cell
    unfold pl5 at mp
    unfold unv W at e4
    have ew : IntKind.wrap .i64 ((i : Int) + 1) = ((i + 1 : Nat) : Int) := by rw [w64 (by omega) (by omega)]; rfl
    have xd : ∀ (R : Type) (K : Option Addr → Option R), hidx (some ⟨bd, 0, none⟩) xs.length (i : Int) 1 K = K (some ⟨bd, i, none⟩) := fun R K => by rw [hidx_1 bd _ 0 _ (by omega) (by omega), Int.toNat_natCast, Nat.zero_add]
    refine ⟨H', o1.trans o', R', fun R KE => ?_, h2', h3'⟩
    refine Eq.trans ?_ (h1' R KE)
    simp only [color_Unshift_l0, color_Unshift_l0_b, ed, cond_true, e1, l1]
    simp (disch := (first | assumption | omega | exact Nat.le_of_ble_eq_true rfl | (simp only [List.length_append, List.length_cons, List.length_nil]; omega))) only [mp, xd, e4, ew, hal_x, hmk_x, hcell_new, hcell_old, hidx_x, hfad_x, hnil_x, ldI_x, ldB_x, ldP_x, ldL_x, pad_some, get0, gets, ik64, ik8, ik32, iku64, cond_true, cond_false, hst_new, hst_old, splice_cc, splice_nn, one_n, one_i, one_b, one_p, one_s, one_t, Int.toNat_zero, Int.toNat_one, tn2, tn3, Nat.mul_one, Nat.zero_add, Nat.zero_mul, Nat.add_zero]
end
set_option maxHeartbeats 4000000 in
theorem Unshift_eq (k : Nat) (hk : 500 < k) {H : Heap} {q : Option Addr} {xs : List Int} (hS : Shows H q (ints xs)) (hl : xs.length ≤ 400) (x0 y0 x1 y1 : Int) (c : Nat) (d : Int) (s : Bool) (x y : Int) :
    ∃ q' c' H', (∀ (R : Type) (K : Int → Int → Int → Int → Option Addr → Nat → Nat → Int → Heap → Option R), color_Unshift k x0 y0 x1 y1 q xs.length c d s x y H K = K (zz (usf x0 y0 x1 y1 xs d s).1 x0) (zz (usf x0 y0 x1 y1 xs d s).1 y0) (zz (usf x0 y0 x1 y1 xs d s).1 x1) (zz (usf x0 y0 x1 y1 xs d s).1 y1) q' (usf x0 y0 x1 y1 xs d s).2.length c' (usf x0 y0 x1 y1 xs d s).1 H') ∧ Shows H' q' (ints (usf x0 y0 x1 y1 xs d s).2) ∧ Old H.length H H' := by
  obtain ⟨J1, e1⟩ := planeValid_eq x0 y0 x1 y1 q xs.length c (H ++ [some ⟨[.int .i64 x0, .int .i64 y0, .int .i64 x1, .int .i64 y1, .slice q xs.length c], false, 0⟩] ++ [some ⟨[.int .i64 d, .bool s, .int .i64 x, .int .i64 y], false, 0⟩] ++ [some ⟨[.int .i64 0, .int .i64 0, .int .i64 0, .int .i64 0, .slice none 0 0], false, 0⟩])
  unfold usf
  cases hv : pv x0 y0 x1 y1 xs.length with
  | false =>
    rw [hv] at e1
    refine ⟨none, 0, ?J1, fun R K => ?M1, .inl rfl, ?O1⟩
    case M1 =>
      unfold color_Unshift color_Unshift_b
      simp (disch := (first | assumption | omega | exact Nat.le_of_ble_eq_true rfl | (simp only [List.length_append, List.length_cons, List.length_nil]; omega))) only [e1, Bool.not_false, hal_x, hmk_x, hcell_new, hcell_old, hidx_x, hfad_x, hnil_x, ldI_x, ldB_x, ldP_x, ldL_x, pad_some, get0, gets, ik64, ik8, ik32, iku64, cond_true, cond_false, hst_new, hst_old, splice_cc, splice_nn, one_n, one_i, one_b, one_p, one_s, one_t, Int.toNat_zero, Int.toNat_one, tn2, tn3, Nat.mul_one, Nat.zero_add, Nat.zero_mul, Nat.add_zero]
      rfl
    case O1 => simp only [List.append_assoc]; exact Old.app _ _
  | true =>
    rw [hv] at e1
    cases hd : dp d with
    | false =>
      refine ⟨none, 0, ?J2, fun R K => ?M2, .inl rfl, ?O2⟩
      case M2 =>
        unfold color_Unshift color_Unshift_b
        simp (disch := (first | assumption | omega | exact Nat.le_of_ble_eq_true rfl | (simp only [List.length_append, List.length_cons, List.length_nil]; omega))) only [e1, Bool.not_true, Bool.not_false, deep_eq, hd, hal_x, hmk_x, hcell_new, hcell_old, hidx_x, hfad_x, hnil_x, ldI_x, ldB_x, ldP_x, ldL_x, pad_some, get0, gets, ik64, ik8, ik32, iku64, cond_true, cond_false, hst_new, hst_old, splice_cc, splice_nn, one_n, one_i, one_b, one_p, one_s, one_t, Int.toNat_zero, Int.toNat_one, tn2, tn3, Nat.mul_one, Nat.zero_add, Nat.zero_mul, Nat.add_zero]
        rfl
      case O2 => simp only [List.append_assoc]; exact Old.app _ _
    | true =>
      have hall : ∃ HL br bp bd, Old H.length H HL ∧ H.length ≤ bd ∧ H.length ≤ br ∧ bd ≠ br ∧ bd ≠ bp ∧ bp ≠ br ∧ Owns HL br zero5 0 ∧ Sees HL bp (pl5 x0 y0 x1 y1 (some ⟨bd, 0, none⟩) xs.length xs.length) ∧ OwnV HL bd xs.length (fun _ => .int .i64 0) ∧
          ∀ (R : Type) (K : Int → Int → Int → Int → Option Addr → Nat → Nat → Int → Heap → Option R), color_Unshift k x0 y0 x1 y1 q xs.length c d s x y H K = color_Unshift_l0 k (fun p247 p248 H249 =>
            ldI .i64 H249 (pad p248 0) fun n250 => ldI .i64 H249 (pad p248 1) fun n251 => ldI .i64 H249 (pad p248 2) fun n252 => ldI .i64 H249 (pad p248 3) fun n253 => ldL H249 (pad p248 4) fun q254 l255 c256 =>
            hst H249 p247 [.int .i64 n250, .int .i64 n251, .int .i64 n252, .int .i64 n253, .slice q254 l255 c256] fun H257 =>
            ldI .i64 H257 (pad p247 0) fun n258 => ldI .i64 H257 (pad p247 1) fun n259 => ldI .i64 H257 (pad p247 2) fun n260 => ldI .i64 H257 (pad p247 3) fun n261 => ldL H257 (pad p247 4) fun q262 l263 c264 => K n258 n259 n260 n261 q262 l263 c264 0 H257)
            k (some ⟨br, 0, none⟩) (lo d s) (hi d s) (off d s) (some ⟨bp, 0, none⟩) q xs.length c ((xs.length : Nat) : Int) 0 HL := by
        obtain ⟨J2, e2⟩ := Range_eq d s x y (H ++ [some ⟨[.int .i64 x0, .int .i64 y0, .int .i64 x1, .int .i64 y1, .slice q xs.length c], false, 0⟩] ++ [some ⟨[.int .i64 d, .bool s, .int .i64 x, .int .i64 y], false, 0⟩] ++ [some ⟨[.int .i64 0, .int .i64 0, .int .i64 0, .int .i64 0, .slice none 0 0], false, 0⟩] ++ J1)
        obtain ⟨J3, e3⟩ := offset_eq hd s x y (H ++ [some ⟨[.int .i64 x0, .int .i64 y0, .int .i64 x1, .int .i64 y1, .slice q xs.length c], false, 0⟩] ++ [some ⟨[.int .i64 d, .bool s, .int .i64 x, .int .i64 y], false, 0⟩] ++ [some ⟨[.int .i64 0, .int .i64 0, .int .i64 0, .int .i64 0, .slice none 0 0], false, 0⟩] ++ J1 ++ J2)
        refine ⟨?HL, ?br, ?bp, ?bd, ?o1, ?o2, ?o3, ?o5, ?o6, ?o7, ?s2, ?s3, ?s4, fun R K => ?main⟩
        case main =>
          unfold color_Unshift color_Unshift_b
          simp (disch := (first | assumption | omega | exact Nat.le_of_ble_eq_true rfl | (simp only [List.length_append, List.length_cons, List.length_nil]; omega))) only [e1, Bool.not_true, deep_eq, hd, e2, e3, hal_x, hmk_x, hcell_new, hcell_old, hidx_x, hfad_x, hnil_x, ldI_x, ldB_x, ldP_x, ldL_x, pad_some, get0, gets, ik64, ik8, ik32, iku64, cond_true, cond_false, hst_new, hst_old, splice_cc, splice_nn, one_n, one_i, one_b, one_p, one_s, one_t, Int.toNat_zero, Int.toNat_one, tn2, tn3, Nat.mul_one, Nat.zero_add, Nat.zero_mul, Nat.add_zero]
          rfl
        case s3 =>
          refine ⟨⟨pl5 x0 y0 x1 y1 (some ⟨?bd, 0, none⟩) xs.length xs.length, false, 0⟩, ?_, rfl⟩
          unfold pl5
          simp (disch := (first | assumption | omega | exact Nat.le_of_ble_eq_true rfl | (simp only [List.length_append, List.length_cons, List.length_nil]; omega))) only [hblk_new, hblk_old]
          rfl
        case o1 => simp only [List.append_assoc]; exact Old.app _ _
        case o2 => simp only [List.length_append, List.length_cons, List.length_nil]; omega
        case o3 => simp only [List.length_append, List.length_cons, List.length_nil]; omega
        case o5 => simp only [List.length_append, List.length_cons, List.length_nil, ne_eq]; omega
        case o6 => simp only [List.length_append, List.length_cons, List.length_nil, ne_eq]; omega
        case o7 => simp only [List.length_append, List.length_cons, List.length_nil, ne_eq]; omega
        case s2 => unfold Owns zero5; simp (disch := (first | assumption | omega | exact Nat.le_of_ble_eq_true rfl | (simp only [List.length_append, List.length_cons, List.length_nil]; omega))) only [hblk_new, hblk_old]
        case s4 => unfold OwnV Owns; simp (disch := (first | assumption | omega | exact Nat.le_of_ble_eq_true rfl | (simp only [List.length_append, List.length_cons, List.length_nil]; omega))) only [hblk_new, hblk_old]
      obtain ⟨HL, br, bp, bd, o1, o2, o3, o5, o6, o7, s2, s3, s4, em⟩ := hall
      have hb : ints xs = [] ∨ Below H.length q := by
        rcases hS with h | ⟨b, o, full, rfl, h1, _⟩
        · exact .inl h
        · exact .inr fun a ha => by cases ha; exact h1.lt
      obtain ⟨H', p1, p2, r2, r3, r4⟩ := unshift_loop (d := d) (s := s) k c o5 o6 o2 o3 hb (by omega) xs.length k 0 (by omega) (by omega) HL (hS.keep o1) s2 s3 (s4.congr fun j hj => by unfold done; rw [if_neg (by omega)]) o1.1
      simp only [Int.natCast_zero] at r2
      obtain ⟨H2, e3, O2, b2, n2⟩ := p2.st (vs := pl5 x0 y0 x1 y1 (some ⟨bd, 0, none⟩) xs.length xs.length) rfl rfl
      have mp := r3.cell
      have mr := O2.sees.cell
      unfold pl5 at mp mr e3
      refine ⟨some ⟨bd, 0, none⟩, xs.length, H2, fun R K => ?_, ?_, o1.trans (p1.trans (b2.old o3 (by have := p1.1; have := o1.1; omega)))⟩
      · rw [em, r2]
        simp (disch := (first | assumption | omega | exact Nat.le_of_ble_eq_true rfl | (simp only [List.length_append, List.length_cons, List.length_nil]; omega))) only [mp, mr, e3, hal_x, hmk_x, hcell_new, hcell_old, hidx_x, hfad_x, hnil_x, ldI_x, ldB_x, ldP_x, ldL_x, pad_some, get0, gets, ik64, ik8, ik32, iku64, cond_true, cond_false, hst_new, hst_old, splice_cc, splice_nn, one_n, one_i, one_b, one_p, one_s, one_t, Int.toNat_zero, Int.toNat_one, tn2, tn3, Nat.mul_one, Nat.zero_add, Nat.zero_mul, Nat.add_zero]
        simp only [List.length_map]
        rfl
      · have := (r4.but b2 o5).sees.shows
        rw [done_all] at this
        exact this
end Go.Proofs.Ytoeoolnkndkefaa.Sh
