/- Color: Shift and Unshift, the program's. -/
import Derived.Test.YtoeoolnkndkefaaClD
set_option linter.unusedVariables false
set_option linter.unusedSimpArgs false
namespace Go.Proofs.Ytoeoolnkndkefaa.Sh
open Go.Proofs.Ytoeoolnkndkefaa.FW
def ints (l : List Int) : List Value := l.map (.int .i64)
theorem ints_len (l : List Int) : (ints l).length = l.length := by simp [ints]
theorem ints_get {l : List Int} {i : Nat} {v : Int} (h : l[i]? = some v) : (ints l)[i]? = some (.int .i64 v) := by simp [ints, h]
/-- Reads an element of a row of numbers. -/
theorem int_at {H : Heap} {q : Option Addr} {xs : List Int} (h : Shows H q (ints xs)) {i : Nat} (hi : i < xs.length) :
    ∃ p, (∀ (R : Type) (K : Option Addr → Option R), hidx q xs.length (i : Int) 1 K = K p) ∧ ∀ (R : Type) (K : Int → Option R), ldI .i64 H p K = K (xs.getD i 0) := by
  obtain ⟨p, e, _, m⟩ := h.idx (l := xs.length) (size := 1) (by rw [ints_len]; omega) (i := (i : Int)) (by omega) (by omega) (by omega)
  refine ⟨p, e, fun R K => ldI_of (m _ ?_) rfl K⟩
  rw [Int.toNat_natCast, Nat.mul_one]
  exact ints_get (by rw [List.getElem?_eq_getElem hi, List.getD_eq_getElem?_getD, List.getElem?_eq_getElem hi]; rfl)
def bad (d : Int) (s : Bool) (v : Int) : Bool := decide (v < lo d s) || decide (v > hi d s)
def zero5 : List Value := [.int .i64 0, .int .i64 0, .int .i64 0, .int .i64 0, .slice none 0 0]
def cmp4 (d : Int) (s : Bool) (x y : Int) : List Value := [.int .i64 d, .bool s, .int .i64 x, .int .i64 y]
def pl5 (x0 y0 x1 y1 : Int) (q : Option Addr) (l c : Nat) : List Value := [.int .i64 x0, .int .i64 y0, .int .i64 x1, .int .i64 y1, .slice q l c]
def done (f : Int → Int) (xs : List Int) (i j : Nat) : Value := if j < i then .int .i64 (f (xs.getD j 0)) else .int .i64 0
theorem done_next (f : Int → Int) (xs : List Int) (i j : Nat) : (if j = i then Value.int .i64 (f (xs.getD i 0)) else done f xs i j) = done f xs (i + 1) j := by
  unfold done
  by_cases c : j = i
  · subst c; rw [if_pos rfl, if_pos (by omega)]
  · rw [if_neg c]
    by_cases c2 : j < i
    · rw [if_pos c2, if_pos (by omega)]
    · rw [if_neg c2, if_neg (by omega)]
section
variable {d : Int} {s : Bool} {x y x0 y0 x1 y1 : Int}
theorem shift_loop (k : Nat) {N : Nat} {xs : List Int} {q : Option Addr} (c : Nat) {bc br bp bd : Nat} (hd : dp d = true) (h1 : bd ≠ bc) (h2 : bd ≠ br) (h3 : bd ≠ bp) (nd : N ≤ bd) (nr : N ≤ br) (hq : ints xs = [] ∨ Below N q) (hl : xs.length ≤ 2000000) :
    ∀ (m n i : Nat), m < n → xs.length = i + m → ∀ (H : Heap), Shows H q (ints xs) → Sees H bc (cmp4 d s x y) → Owns H br zero5 0 → Sees H bp (pl5 x0 y0 x1 y1 (some ⟨bd, 0, none⟩) xs.length xs.length) → OwnV H bd xs.length (done (fun v => W (v - off d s)) xs i) → N ≤ H.length →
    ∃ H', Old N H H' ∧ Owns H' br zero5 0 ∧
      (((xs.drop i).any (bad d s) = false ∧ (∀ (R : Type) (KE : Option Addr → Option Addr → Heap → Option R) (KR : Option Addr → Int → Heap → Option R), color_Shift_l0 k KE KR n (some ⟨bc, 0, none⟩) (some ⟨br, 0, none⟩) (lo d s) (hi d s) (some ⟨bp, 0, none⟩) q xs.length c ((xs.length : Nat) : Int) (i : Int) H = KE (some ⟨br, 0, none⟩) (some ⟨bp, 0, none⟩) H') ∧
          Sees H' bp (pl5 x0 y0 x1 y1 (some ⟨bd, 0, none⟩) xs.length xs.length) ∧ OwnV H' bd xs.length (done (fun v => W (v - off d s)) xs xs.length)) ∨
       ((xs.drop i).any (bad d s) = true ∧ ∀ (R : Type) (KE : Option Addr → Option Addr → Heap → Option R) (KR : Option Addr → Int → Heap → Option R), color_Shift_l0 k KE KR n (some ⟨bc, 0, none⟩) (some ⟨br, 0, none⟩) (lo d s) (hi d s) (some ⟨bp, 0, none⟩) q xs.length c ((xs.length : Nat) : Int) (i : Int) H = KR (some ⟨br, 0, none⟩) 2 H')) := by
  intro m
  induction m with
  | zero =>
    intro n i hn hi' H hS hC hR hP hD hN
    obtain ⟨n, rfl⟩ : ∃ n', n = n' + 1 := ⟨n - 1, by omega⟩
    have hi0 : xs.length = i := by omega
    refine ⟨H, .refl _ _, hR, .inl ⟨by rw [List.drop_of_length_le (by omega)]; rfl, fun R KE KR => ?_, hP, by rw [← hi0] at hD; exact hD⟩⟩
    have ed : decide ((i : Int) < ((xs.length : Nat) : Int)) = false := decide_eq_false (by omega)
    simp only [color_Shift_l0, color_Shift_l0_b, ed, cond_false]
  | succ m ih =>
    intro n i hn hi' H hS hC hR hP hD hN
    obtain ⟨n, rfl⟩ : ∃ n', n = n' + 1 := ⟨n - 1, by omega⟩
    have hlt : i < xs.length := by omega
    have ed : decide ((i : Int) < ((xs.length : Nat) : Int)) = true := decide_eq_true (by omega)
    obtain ⟨p, e1, l1⟩ := int_at hS hlt
    have hdr : xs.drop i = xs.getD i 0 :: xs.drop (i + 1) := by
      rw [List.drop_eq_getElem_cons hlt, List.getD_eq_getElem?_getD, List.getElem?_eq_getElem hlt]; rfl
    rw [hdr, List.any_cons]
    generalize hv : xs.getD i 0 = v at l1
    cases hb : bad d s v with
    | true =>
      obtain ⟨H', e2, O2, b2, n2⟩ := hR.st (vs := zero5) rfl rfl
      refine ⟨H', b2.old nr hN, O2, .inr ⟨rfl, fun R KE KR => ?_⟩⟩
      unfold zero5 at e2
      unfold bad at hb
      rw [Bool.or_eq_true, decide_eq_true_eq, decide_eq_true_eq] at hb
      by_cases c1 : v < lo d s
      · have d1 : decide (v < lo d s) = true := decide_eq_true c1
        simp only [color_Shift_l0, color_Shift_l0_b, color_Shift_p1, color_Shift_p1_b, ed, cond_true, e1, l1, d1, e2]
      · have d1 : decide (v < lo d s) = false := decide_eq_false c1
        have d2 : decide (v > hi d s) = true := decide_eq_true (by omega)
        simp only [color_Shift_l0, color_Shift_l0_b, color_Shift_p1, color_Shift_p1_b, ed, cond_true, cond_false, e1, l1, d1, d2, e2]
    | false =>
      obtain ⟨J, e3⟩ := offset_eq hd s x y (roH H)
      obtain ⟨H1, e4, O4, b4, n4⟩ := hD.put hlt (.int .i64 (W (v - off d s)))
      have hD1 : OwnV H1 bd xs.length (done (fun v => W (v - off d s)) xs (i + 1)) := O4.congr fun j hj => by rw [← hv]; exact done_next (fun v => W (v - off d s)) xs i j
      have o1 := b4.old nd hN
      obtain ⟨H', o', R', h'⟩ := ih n (i + 1) (by omega) (by omega) H1 (hS.old o1 hq) (hC.but b4 (Ne.symm h1)) (hR.but b4 (Ne.symm h2)) (hP.but b4 (Ne.symm h3)) hD1 (by omega)
      unfold bad at hb
      rw [Bool.or_eq_false_iff] at hb
      have mc := hC.cell
      have mp := hP.cell
      unfold cmp4 at mc
      unfold pl5 at mp
      have ew : IntKind.wrap .i64 ((i : Int) + 1) = ((i + 1 : Nat) : Int) := by rw [w64 (by omega) (by omega)]; rfl
      have xd : ∀ (R : Type) (K : Option Addr → Option R), hidx (some ⟨bd, 0, none⟩) xs.length (i : Int) 1 K = K (some ⟨bd, i, none⟩) := fun R K => by rw [hidx_1 bd _ 0 _ (by omega) (by omega), Int.toNat_natCast, Nat.zero_add]
      have step : ∀ (R : Type) (KE : Option Addr → Option Addr → Heap → Option R) (KR : Option Addr → Int → Heap → Option R), color_Shift_l0 k KE KR (n + 1) (some ⟨bc, 0, none⟩) (some ⟨br, 0, none⟩) (lo d s) (hi d s) (some ⟨bp, 0, none⟩) q xs.length c ((xs.length : Nat) : Int) (i : Int) H = color_Shift_l0 k KE KR n (some ⟨bc, 0, none⟩) (some ⟨br, 0, none⟩) (lo d s) (hi d s) (some ⟨bp, 0, none⟩) q xs.length c ((xs.length : Nat) : Int) ((i + 1 : Nat) : Int) H1 := fun R KE KR => by
        simp only [color_Shift_l0, color_Shift_l0_b, color_Shift_p1, color_Shift_p1_b, ed, cond_true, cond_false, e1, l1, hb.1, hb.2]
        simp (disch := (first | assumption | omega | exact Nat.le_of_ble_eq_true rfl | (simp only [List.length_append, List.length_cons, List.length_nil]; omega))) only [mc, mp, e3, xd, e4, ew, hal_x, hmk_x, hcell_new, hcell_old, hidx_x, hfad_x, hnil_x, ldI_x, ldB_x, ldP_x, ldL_x, pad_some, get0, gets, ik64, ik8, ik32, iku64, cond_true, cond_false, hst_new, hst_old, splice_cc, splice_nn, one_n, one_i, one_b, one_p, one_s, one_t, Int.toNat_zero, Int.toNat_one, tn2, tn3, Nat.mul_one, Nat.zero_add, Nat.zero_mul, Nat.add_zero]
      refine ⟨H', o1.trans o', R', ?_⟩
      rcases h' with ⟨a1, a2, a3, a4⟩ | ⟨a1, a2⟩
      · exact .inl ⟨by rw [Bool.false_or]; exact a1, fun R KE KR => (step R KE KR).trans (a2 R KE KR), a3, a4⟩
      · exact .inr ⟨by rw [Bool.false_or]; exact a1, fun R KE KR => (step R KE KR).trans (a2 R KE KR)⟩
end
def zz (e x : Int) : Int := bif e == 0 then x else 0
/-- What Shift returns: the error and the samples. -/
def shf (x0 y0 x1 y1 : Int) (xs : List Int) (d : Int) (s : Bool) : Int × List Int :=
  bif pv x0 y0 x1 y1 xs.length then (bif dp d then (bif xs.any (bad d s) then (2, []) else (0, xs.map fun v => W (v - off d s))) else (12, [])) else (1, [])
theorem done_all (f : Int → Int) (xs : List Int) : vcells xs.length (done f xs xs.length) = ints (xs.map f) := by
  unfold ints vcells
  apply List.ext_getElem?
  intro i
  by_cases h : i < xs.length
  · simp [h, done]
  · rw [List.getElem?_eq_none (by simp; omega), List.getElem?_eq_none (by simp; omega)]
set_option maxHeartbeats 4000000 in
theorem Shift_eq (k : Nat) (hk : 500 < k) {H : Heap} {q : Option Addr} {xs : List Int} (hS : Shows H q (ints xs)) (hl : xs.length ≤ 400) (x0 y0 x1 y1 : Int) (c : Nat) (d : Int) (s : Bool) (x y : Int) :
    ∃ q' c' H', (∀ (R : Type) (K : Int → Int → Int → Int → Option Addr → Nat → Nat → Int → Heap → Option R), color_Shift k x0 y0 x1 y1 q xs.length c d s x y H K = K (zz (shf x0 y0 x1 y1 xs d s).1 x0) (zz (shf x0 y0 x1 y1 xs d s).1 y0) (zz (shf x0 y0 x1 y1 xs d s).1 x1) (zz (shf x0 y0 x1 y1 xs d s).1 y1) q' (shf x0 y0 x1 y1 xs d s).2.length c' (shf x0 y0 x1 y1 xs d s).1 H') ∧ Shows H' q' (ints (shf x0 y0 x1 y1 xs d s).2) ∧ Old H.length H H' := by
  obtain ⟨J1, e1⟩ := planeValid_eq x0 y0 x1 y1 q xs.length c (H ++ [some ⟨[.int .i64 x0, .int .i64 y0, .int .i64 x1, .int .i64 y1, .slice q xs.length c], false, 0⟩] ++ [some ⟨[.int .i64 d, .bool s, .int .i64 x, .int .i64 y], false, 0⟩] ++ [some ⟨[.int .i64 0, .int .i64 0, .int .i64 0, .int .i64 0, .slice none 0 0], false, 0⟩])
  unfold shf
  cases hv : pv x0 y0 x1 y1 xs.length with
  | false =>
    rw [hv] at e1
    refine ⟨none, 0, ?J1, fun R K => ?M1, .inl rfl, ?O1⟩
    case M1 =>
      unfold color_Shift color_Shift_b
      simp (disch := (first | assumption | omega | exact Nat.le_of_ble_eq_true rfl | (simp only [List.length_append, List.length_cons, List.length_nil]; omega))) only [e1, Bool.not_false, hal_x, hmk_x, hcell_new, hcell_old, hidx_x, hfad_x, hnil_x, ldI_x, ldB_x, ldP_x, ldL_x, pad_some, get0, gets, ik64, ik8, ik32, iku64, cond_true, cond_false, hst_new, hst_old, splice_cc, splice_nn, one_n, one_i, one_b, one_p, one_s, one_t, Int.toNat_zero, Int.toNat_one, tn2, tn3, Nat.mul_one, Nat.zero_add, Nat.zero_mul, Nat.add_zero]
      rfl
    case O1 => simp only [List.append_assoc]; exact Old.app _ _
  | true =>
    rw [hv] at e1
    cases hd : dp d with
    | false =>
      refine ⟨none, 0, ?J2, fun R K => ?M2, .inl rfl, ?O2⟩
      case M2 =>
        unfold color_Shift color_Shift_b
        simp (disch := (first | assumption | omega | exact Nat.le_of_ble_eq_true rfl | (simp only [List.length_append, List.length_cons, List.length_nil]; omega))) only [e1, Bool.not_true, Bool.not_false, deep_eq, hd, hal_x, hmk_x, hcell_new, hcell_old, hidx_x, hfad_x, hnil_x, ldI_x, ldB_x, ldP_x, ldL_x, pad_some, get0, gets, ik64, ik8, ik32, iku64, cond_true, cond_false, hst_new, hst_old, splice_cc, splice_nn, one_n, one_i, one_b, one_p, one_s, one_t, Int.toNat_zero, Int.toNat_one, tn2, tn3, Nat.mul_one, Nat.zero_add, Nat.zero_mul, Nat.add_zero]
        rfl
      case O2 => simp only [List.append_assoc]; exact Old.app _ _
    | true =>
      have hall : ∃ HL bc br bp bd, Old H.length H HL ∧ H.length ≤ bd ∧ H.length ≤ br ∧ bd ≠ bc ∧ bd ≠ br ∧ bd ≠ bp ∧ bp ≠ br ∧ Sees HL bc (cmp4 d s x y) ∧ Owns HL br zero5 0 ∧ Sees HL bp (pl5 x0 y0 x1 y1 (some ⟨bd, 0, none⟩) xs.length xs.length) ∧ OwnV HL bd xs.length (fun _ => .int .i64 0) ∧
          ∀ (R : Type) (K : Int → Int → Int → Int → Option Addr → Nat → Nat → Int → Heap → Option R), color_Shift k x0 y0 x1 y1 q xs.length c d s x y H K = color_Shift_l0 k (fun p247 p248 H249 =>
            ldI .i64 H249 (pad p248 0) fun n250 => ldI .i64 H249 (pad p248 1) fun n251 => ldI .i64 H249 (pad p248 2) fun n252 => ldI .i64 H249 (pad p248 3) fun n253 => ldL H249 (pad p248 4) fun q254 l255 c256 =>
            hst H249 p247 [.int .i64 n250, .int .i64 n251, .int .i64 n252, .int .i64 n253, .slice q254 l255 c256] fun H257 =>
            ldI .i64 H257 (pad p247 0) fun n258 => ldI .i64 H257 (pad p247 1) fun n259 => ldI .i64 H257 (pad p247 2) fun n260 => ldI .i64 H257 (pad p247 3) fun n261 => ldL H257 (pad p247 4) fun q262 l263 c264 => K n258 n259 n260 n261 q262 l263 c264 0 H257)
            (fun p265 n266 H267 => ldI .i64 H267 (pad p265 0) fun n268 => ldI .i64 H267 (pad p265 1) fun n269 => ldI .i64 H267 (pad p265 2) fun n270 => ldI .i64 H267 (pad p265 3) fun n271 => ldL H267 (pad p265 4) fun q272 l273 c274 => K n268 n269 n270 n271 q272 l273 c274 n266 H267)
            k (some ⟨bc, 0, none⟩) (some ⟨br, 0, none⟩) (lo d s) (hi d s) (some ⟨bp, 0, none⟩) q xs.length c ((xs.length : Nat) : Int) 0 HL := by
        obtain ⟨J2, e2⟩ := Range_eq d s x y (H ++ [some ⟨[.int .i64 x0, .int .i64 y0, .int .i64 x1, .int .i64 y1, .slice q xs.length c], false, 0⟩] ++ [some ⟨[.int .i64 d, .bool s, .int .i64 x, .int .i64 y], false, 0⟩] ++ [some ⟨[.int .i64 0, .int .i64 0, .int .i64 0, .int .i64 0, .slice none 0 0], false, 0⟩] ++ J1)
        refine ⟨?HL, ?bc, ?br, ?bp, ?bd, ?o1, ?o2, ?o3, ?o4, ?o5, ?o6, ?o7, ?s1, ?s2, ?s3, ?s4, fun R K => ?main⟩
        case main =>
          unfold color_Shift color_Shift_b
          simp (disch := (first | assumption | omega | exact Nat.le_of_ble_eq_true rfl | (simp only [List.length_append, List.length_cons, List.length_nil]; omega))) only [e1, Bool.not_true, deep_eq, hd, e2, hal_x, hmk_x, hcell_new, hcell_old, hidx_x, hfad_x, hnil_x, ldI_x, ldB_x, ldP_x, ldL_x, pad_some, get0, gets, ik64, ik8, ik32, iku64, cond_true, cond_false, hst_new, hst_old, splice_cc, splice_nn, one_n, one_i, one_b, one_p, one_s, one_t, Int.toNat_zero, Int.toNat_one, tn2, tn3, Nat.mul_one, Nat.zero_add, Nat.zero_mul, Nat.add_zero]
          rfl
        case s3 =>
          refine ⟨⟨pl5 x0 y0 x1 y1 (some ⟨?bd, 0, none⟩) xs.length xs.length, false, 0⟩, ?_, rfl⟩
          unfold pl5
          simp (disch := (first | assumption | omega | exact Nat.le_of_ble_eq_true rfl | (simp only [List.length_append, List.length_cons, List.length_nil]; omega))) only [hblk_new, hblk_old]
          rfl
        case o1 => simp only [List.append_assoc]; exact Old.app _ _
        case o2 => simp only [List.length_append, List.length_cons, List.length_nil]; omega
        case o3 => simp only [List.length_append, List.length_cons, List.length_nil]; omega
        case o4 => simp only [List.length_append, List.length_cons, List.length_nil, ne_eq]; omega
        case o5 => simp only [List.length_append, List.length_cons, List.length_nil, ne_eq]; omega
        case o6 => simp only [List.length_append, List.length_cons, List.length_nil, ne_eq]; omega
        case o7 => simp only [List.length_append, List.length_cons, List.length_nil, ne_eq]; omega
        case s1 => exact ⟨⟨cmp4 d s x y, false, 0⟩, by unfold cmp4; simp (disch := (first | assumption | omega | exact Nat.le_of_ble_eq_true rfl | (simp only [List.length_append, List.length_cons, List.length_nil]; omega))) only [hblk_new, hblk_old], rfl⟩
        case s2 => unfold Owns zero5; simp (disch := (first | assumption | omega | exact Nat.le_of_ble_eq_true rfl | (simp only [List.length_append, List.length_cons, List.length_nil]; omega))) only [hblk_new, hblk_old]
        case s4 => unfold OwnV Owns; simp (disch := (first | assumption | omega | exact Nat.le_of_ble_eq_true rfl | (simp only [List.length_append, List.length_cons, List.length_nil]; omega))) only [hblk_new, hblk_old]
      obtain ⟨HL, bc, br, bp, bd, o1, o2, o3, o4, o5, o6, o7, s1, s2, s3, s4, em⟩ := hall
      have hb : ints xs = [] ∨ Below H.length q := by
        rcases hS with h | ⟨b, o, full, rfl, h1, _⟩
        · exact .inl h
        · exact .inr fun a ha => by cases ha; exact h1.lt
      obtain ⟨H', p1, p2, p3⟩ := shift_loop k c hd o4 o5 o6 o2 o3 hb (by omega) xs.length k 0 (by omega) (by omega) HL (hS.keep o1) s1 s2 s3 (s4.congr fun j hj => by unfold done; rw [if_neg (by omega)]) o1.1
      simp only [List.drop_zero, Int.natCast_zero] at p3
      rcases p3 with ⟨r1, r2, r3, r4⟩ | ⟨r1, r2⟩
      · obtain ⟨H2, e3, O2, b2, n2⟩ := p2.st (vs := pl5 x0 y0 x1 y1 (some ⟨bd, 0, none⟩) xs.length xs.length) rfl rfl
        have mp := r3.cell
        have mr := O2.sees.cell
        unfold pl5 at mp mr e3
        rw [r1]
        refine ⟨some ⟨bd, 0, none⟩, xs.length, H2, fun R K => ?_, ?_, o1.trans (p1.trans (b2.old o3 (by have := p1.1; have := o1.1; omega)))⟩
        · rw [em, r2]
          simp (disch := (first | assumption | omega | exact Nat.le_of_ble_eq_true rfl | (simp only [List.length_append, List.length_cons, List.length_nil]; omega))) only [mp, mr, e3, hal_x, hmk_x, hcell_new, hcell_old, hidx_x, hfad_x, hnil_x, ldI_x, ldB_x, ldP_x, ldL_x, pad_some, get0, gets, ik64, ik8, ik32, iku64, cond_true, cond_false, hst_new, hst_old, splice_cc, splice_nn, one_n, one_i, one_b, one_p, one_s, one_t, Int.toNat_zero, Int.toNat_one, tn2, tn3, Nat.mul_one, Nat.zero_add, Nat.zero_mul, Nat.add_zero]
          simp only [List.length_map]
          rfl
        · have := (r4.but b2 o5).sees.shows
          rw [done_all] at this
          exact this
      · have mr := p2.sees.cell
        unfold zero5 at mr
        rw [r1]
        refine ⟨none, 0, H', fun R K => ?_, .inl rfl, o1.trans p1⟩
        rw [em, r2]
        simp (disch := (first | assumption | omega | exact Nat.le_of_ble_eq_true rfl | (simp only [List.length_append, List.length_cons, List.length_nil]; omega))) only [mr, hal_x, hmk_x, hcell_new, hcell_old, hidx_x, hfad_x, hnil_x, ldI_x, ldB_x, ldP_x, ldL_x, pad_some, get0, gets, ik64, ik8, ik32, iku64, cond_true, cond_false, hst_new, hst_old, splice_cc, splice_nn, one_n, one_i, one_b, one_p, one_s, one_t, Int.toNat_zero, Int.toNat_one, tn2, tn3, Nat.mul_one, Nat.zero_add, Nat.zero_mul, Nat.add_zero]
        rfl
end Go.Proofs.Ytoeoolnkndkefaa.Sh
