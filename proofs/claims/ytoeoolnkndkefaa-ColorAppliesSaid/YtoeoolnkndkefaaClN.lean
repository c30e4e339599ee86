/- Color: the reference's transform of a list of planes. -/
import Derived.Test.YtoeoolnkndkefaaClM
set_option linter.unusedVariables false
set_option linter.unusedSimpArgs false
namespace Go.Proofs.Ytoeoolnkndkefaa.Sh
open Go.Proofs.Ytoeoolnkndkefaa.FW
theorem each_l0_eq (k : Nat) (t : Int) (bk : Bool) {N : Nat} {H0 : Heap} {q : Option Addr} {es : List Pr} (c : Nat) (hN : N = H0.length) (hP : Pls H0 q es) (hl : es.length ≤ 6) (hx : ∀ e ∈ es, e.xs.length ≤ 400) : ∀ (m n i : Nat), m < n → es.length = i + m → ∀ (H : Heap) (q' : Option Addr) (c' : Nat) (outs : List Pr), Old N H0 H → Outs N H q' i c' outs → outs.map Pr.pl = (es.take i).map Pr.pl → ∃ H' q2 c2 outs2, (∀ (R : Type) (KE : Int → Option Addr → Nat → Nat → Bool → Option Addr → Nat → Nat → Heap → Option R), R07_each_l0 k KE n t q es.length c bk q' i c' (i : Int) H = KE t q es.length c bk q2 es.length c2 H') ∧ Outs N H' q2 es.length c2 outs2 ∧ outs2.map Pr.pl = es.map Pr.pl ∧ Old N H0 H' := by
  intro m
  induction m with
  | zero =>
    intro n i hn hi H q' c' outs hO hU hm
    obtain ⟨n, rfl⟩ : ∃ n', n = n' + 1 := ⟨n - 1, by omega⟩
    have hi0 : i = es.length := by omega
    subst hi0
    refine ⟨H, q', c', outs, fun R KE => ?_, hU, by rw [hm, List.take_length], hO⟩
    have ed : decide (((es.length : Nat) : Int) < ((es.length : Nat) : Int)) = false := decide_eq_false (by omega)
    simp only [R07_each_l0, R07_each_l0_b, ed, cond_false]
  | succ m ih =>
    intro n i hn hi H q' c' outs hO hU hm
    obtain ⟨n, rfl⟩ : ∃ n', n = n' + 1 := ⟨n - 1, by omega⟩
    have ed : decide ((i : Int) < ((es.length : Nat) : Int)) = true := decide_eq_true (by omega)
    obtain ⟨e, he, hd⟩ := get_of hi
    have hN' : N ≤ H.length := by have := hO.1; omega
    have hPH : Pls H q es := hP.keep (hN ▸ hO)
    obtain ⟨b, o, e0, m0, m1, m2, m3, m4, hS⟩ := hPH.at he
    obtain ⟨q1, c1, H1, q3, H3, f, e1, e2, O3, hf, o3, n3⟩ := hU.copy hN' (by omega) e (hS.keep (Old.app _ _)) (hx e (List.mem_of_getElem? he))
    have w := wnext (i := i) (l := es.length) (by omega) (by omega)
    obtain ⟨H', q2, c2, outs2, e3, r1, r2, r3⟩ := ih n (i + 1) (by omega) (by omega) H3 q3 unk (outs ++ [f]) (hO.trans o3) O3 (by rw [List.map_append, hm, List.take_add_one, he, List.map_append]; simp [hf])
    have hb : b < H.length := by
      rcases Nat.lt_or_ge b H.length with h | h
      · exact h
      · have : hblk H b = none := by
          cases hh : hblk H b with
          | none => rfl
          | some B => have := hblk_lt hh; omega
        unfold hcell at m4; rw [this] at m4; cases m4
    have mb : hcell (H ++ [some ⟨[], false, 0⟩]) b (o + 4) = some (.slice e.q e.xs.length e.c) := by rw [hcell_old hb]; exact m4
    refine ⟨H', q2, c2, outs2, fun R KE => ?_, r1, r2, r3⟩
    unfold R07_each_l0 R07_each_l0_b
    repeat (first | (with_reducible refine (e0 _ _).trans ?_) | (with_reducible refine (e1 _ _).trans ?_) | (with_reducible refine (e2 _ _).trans ?_) | ((with_reducible refine go_ip (x := ?_) ?_ ?_); rotate_left 1; (first | ((with_reducible refine (hcell_new _ _ _).trans ?_); rfl) | exact m0 | exact m1 | exact m2 | exact m3 | exact m4 | exact mb | rfl)) | ((with_reducible refine go_bp (x := ?_) ?_ ?_); rotate_left 1; (first | ((with_reducible refine (hcell_new _ _ _).trans ?_); rfl) | exact m0 | exact m1 | exact m2 | exact m3 | exact m4 | exact mb | rfl)) | ((with_reducible refine go_lp (x := ?_) (l := ?_) (c := ?_) ?_ ?_); rotate_left 3; (first | ((with_reducible refine (hcell_new _ _ _).trans ?_); rfl) | exact m0 | exact m1 | exact m2 | exact m3 | exact m4 | exact mb | rfl)) | ((with_reducible refine go_pp (x := ?_) ?_ ?_); rotate_left 1; (first | ((with_reducible refine (hcell_new _ _ _).trans ?_); rfl) | exact m0 | exact m1 | exact m2 | exact m3 | exact m4 | exact mb | rfl)) | ((with_reducible refine go_i (x := ?_) ?_ ?_); rotate_left 1; (first | ((with_reducible refine (hcell_new _ _ _).trans ?_); rfl) | exact m0 | exact m1 | exact m2 | exact m3 | exact m4 | exact mb | rfl)) | ((with_reducible refine go_b (x := ?_) ?_ ?_); rotate_left 1; (first | ((with_reducible refine (hcell_new _ _ _).trans ?_); rfl) | exact m0 | exact m1 | exact m2 | exact m3 | exact m4 | exact mb | rfl)) | ((with_reducible refine go_l (x := ?_) (l := ?_) (c := ?_) ?_ ?_); rotate_left 3; (first | ((with_reducible refine (hcell_new _ _ _).trans ?_); rfl) | exact m0 | exact m1 | exact m2 | exact m3 | exact m4 | exact mb | rfl)) | ((with_reducible refine go_p (x := ?_) ?_ ?_); rotate_left 1; (first | ((with_reducible refine (hcell_new _ _ _).trans ?_); rfl) | exact m0 | exact m1 | exact m2 | exact m3 | exact m4 | exact mb | rfl)) | ((with_reducible refine go_halst rfl ?_ ?_ ?_); rfl; rfl) | (with_reducible refine go_halN rfl ?_) | (with_reducible refine go_t ed ?_) | (with_reducible refine go_f ed ?_) | ((with_reducible refine go_t ?_ ?_); (show _ = true; rfl)) | ((with_reducible refine go_f ?_ ?_); (show _ = false; rfl)) | (with_reducible refine go_ne ?_) | (with_reducible refine go_eq ?_) | (with_reducible refine go_fad ?_) | (with_reducible refine go_nil ?_))
    rw [w]
    exact e3 _ _
theorem each_l1_eq (k : Nat) (F : Int → Int → Int → Int × Int × Int) {bl n s0 s1 s2 b0 b1 b2 c0 c1 c2 N : Nat} {l : List Value} {len : Nat} (hlen : 3 ≤ len) (hn : n ≤ 400) (t : Int) (bk : Bool) (c cs : Nat) {q : Option Addr} {es : List Pr} {f0 f1 f2 : Pr} (h0 : es[0]? = some f0) (h1 : es[1]? = some f1) (h2 : es[2]? = some f2) (n0 : f0.xs.length = n) (n1 : f1.xs.length = n) (n2 : f2.xs.length = n) {H0 : Heap} (hP : Pls H0 q es) (hNb : H0.length ≤ b0 ∧ H0.length ≤ b1 ∧ H0.length ≤ b2)
    (hF : ∀ i, i < n → ∀ (R : Type) (K : Int → Int → Int → Option R), (bif bk then R07_Inverse t (f0.xs.getD i 0) (f1.xs.getD i 0) (f2.xs.getD i 0) K else R07_Forward t (f0.xs.getD i 0) (f1.xs.getD i 0) (f2.xs.getD i 0) K) = K (F (f0.xs.getD i 0) (f1.xs.getD i 0) (f2.xs.getD i 0)).1 (F (f0.xs.getD i 0) (f1.xs.getD i 0) (f2.xs.getD i 0)).2.1 (F (f0.xs.getD i 0) (f1.xs.getD i 0) (f2.xs.getD i 0)).2.2) : ∀ (m f i : Nat), m < f → n = i + m → ∀ (H : Heap), Old H0.length H0 H → Tri3 H bl l n b0 b1 b2 c0 c1 c2 s0 s1 s2 (mx F f0.xs f1.xs f2.xs pr0 i) (mx F f0.xs f1.xs f2.xs pr1 i) (mx F f0.xs f1.xs f2.xs pr2 i) → ∃ H', (∀ (R : Type) (KE : Option Addr → Nat → Nat → Heap → Option R), R07_each_l1 k KE f t q es.length cs bk (some ⟨bl, 0, none⟩) len c (i : Int) H = KE (some ⟨bl, 0, none⟩) len c H') ∧
    Tri3 H' bl l n b0 b1 b2 c0 c1 c2 s0 s1 s2 (mx F f0.xs f1.xs f2.xs pr0 n) (mx F f0.xs f1.xs f2.xs pr1 n) (mx F f0.xs f1.xs f2.xs pr2 n) ∧ But3 b0 b1 b2 H H' := by
  intro m
  induction m with
  | zero =>
    intro f i hf hi H hO h
    obtain ⟨f, rfl⟩ : ∃ f', f = f' + 1 := ⟨f - 1, by omega⟩
    have hi0 : i = n := by omega
    subst hi0
    have ed : decide (((i : Nat) : Int) < ((f0.xs.length : Nat) : Int)) = false := decide_eq_false (by omega)
    obtain ⟨a0, o0, x0, m00, m01, m02, m03, m04, S0⟩ := (hP.keep hO).at h0
    simp only [Int.natCast_zero] at x0
    refine ⟨H, fun R KE => ?_, h, .refl _ _ _ _⟩
    unfold R07_each_l1 R07_each_l1_b
    repeat (first | (with_reducible refine (x0 _ _).trans ?_) | ((with_reducible refine go_ip (x := ?_) ?_ ?_); rotate_left 1; (first | ((with_reducible refine (hcell_new _ _ _).trans ?_); rfl) | exact m04 | rfl)) | ((with_reducible refine go_bp (x := ?_) ?_ ?_); rotate_left 1; (first | ((with_reducible refine (hcell_new _ _ _).trans ?_); rfl) | exact m04 | rfl)) | ((with_reducible refine go_lp (x := ?_) (l := ?_) (c := ?_) ?_ ?_); rotate_left 3; (first | ((with_reducible refine (hcell_new _ _ _).trans ?_); rfl) | exact m04 | rfl)) | ((with_reducible refine go_pp (x := ?_) ?_ ?_); rotate_left 1; (first | ((with_reducible refine (hcell_new _ _ _).trans ?_); rfl) | exact m04 | rfl)) | ((with_reducible refine go_i (x := ?_) ?_ ?_); rotate_left 1; (first | ((with_reducible refine (hcell_new _ _ _).trans ?_); rfl) | exact m04 | rfl)) | ((with_reducible refine go_b (x := ?_) ?_ ?_); rotate_left 1; (first | ((with_reducible refine (hcell_new _ _ _).trans ?_); rfl) | exact m04 | rfl)) | ((with_reducible refine go_l (x := ?_) (l := ?_) (c := ?_) ?_ ?_); rotate_left 3; (first | ((with_reducible refine (hcell_new _ _ _).trans ?_); rfl) | exact m04 | rfl)) | ((with_reducible refine go_p (x := ?_) ?_ ?_); rotate_left 1; (first | ((with_reducible refine (hcell_new _ _ _).trans ?_); rfl) | exact m04 | rfl)) | ((with_reducible refine go_halst rfl ?_ ?_ ?_); rfl; rfl) | (with_reducible refine go_halN rfl ?_) | (with_reducible refine go_t ed ?_) | (with_reducible refine go_f ed ?_) | ((with_reducible refine go_t ?_ ?_); (show _ = true; rfl)) | ((with_reducible refine go_f ?_ ?_); (show _ = false; rfl)) | (with_reducible refine go_ne ?_) | (with_reducible refine go_eq ?_) | (with_reducible refine go_fad ?_) | (with_reducible refine go_nil ?_))
    rfl
  | succ m ih =>
    intro f i hf hi H hO h
    obtain ⟨f, rfl⟩ : ∃ f', f = f' + 1 := ⟨f - 1, by omega⟩
    have hin : i < n := by omega
    have ed : decide (((i : Nat) : Int) < ((f0.xs.length : Nat) : Int)) = true := decide_eq_true (by omega)
    have hPH := hP.keep hO
    obtain ⟨a0, o0, x0, m00, m01, m02, m03, m04, S0⟩ := hPH.at h0
    obtain ⟨a1, o1, x1, m10, m11, m12, m13, m14, S1⟩ := hPH.at h1
    obtain ⟨a2, o2, x2, m20, m21, m22, m23, m24, S2⟩ := hPH.at h2
    simp only [Int.natCast_zero] at x0
    rw [show ((1 : Nat) : Int) = 1 from rfl] at x1
    rw [show ((2 : Nat) : Int) = 2 from rfl] at x2
    obtain ⟨p0, y0, v0⟩ := int_at S0 (i := i) (by omega)
    obtain ⟨p1, y1, v1⟩ := int_at S1 (i := i) (by omega)
    obtain ⟨p2, y2, v2⟩ := int_at S2 (i := i) (by omega)
    obtain ⟨H1, u1, T1, B1⟩ := h.put0 hin (.int .i64 (F (f0.xs.getD i 0) (f1.xs.getD i 0) (f2.xs.getD i 0)).1)
    obtain ⟨H2, u2, T2, B2⟩ := T1.put1 hin (.int .i64 (F (f0.xs.getD i 0) (f1.xs.getD i 0) (f2.xs.getD i 0)).2.1)
    obtain ⟨H3, u3, T3, B3⟩ := T2.put2 hin (.int .i64 (F (f0.xs.getD i 0) (f1.xs.getD i 0) (f2.xs.getD i 0)).2.2)
    have B13 := (B1.trans B2).trans B3
    have T3' := T3.congr (mx_next F f0.xs f1.xs f2.xs pr0 i) (mx_next F f0.xs f1.xs f2.xs pr1 i) (mx_next F f0.xs f1.xs f2.xs pr2 i)
    obtain ⟨H4, e4, T4, B4⟩ := ih f (i + 1) (by omega) (by omega) H3 (hO.trans (B13.old hNb hO.1)) T3'
    have w := wnext (i := i) (l := n) (by omega) (by omega)
    refine ⟨H4, fun R KE => ?_, T4, B13.trans B4⟩
    have r0 : ∀ (R : Type) (K : Option Addr → Option R), hidx (some ⟨bl, 0, none⟩) len 0 5 K = K (some ⟨bl, 0, none⟩) := fun R K => by simp only [hidx]; rw [if_pos ⟨by omega, by omega⟩]; rfl
    have r1 : ∀ (R : Type) (K : Option Addr → Option R), hidx (some ⟨bl, 0, none⟩) len 1 5 K = K (some ⟨bl, 5, none⟩) := fun R K => by simp only [hidx]; rw [if_pos ⟨by omega, by omega⟩]; rfl
    have r2 : ∀ (R : Type) (K : Option Addr → Option R), hidx (some ⟨bl, 0, none⟩) len 2 5 K = K (some ⟨bl, 10, none⟩) := fun R K => by simp only [hidx]; rw [if_pos ⟨by omega, by omega⟩]; rfl
    have y : ∀ (b : Nat) (R : Type) (K : Option Addr → Option R), hidx (some ⟨b, 0, none⟩) n (i : Int) 1 K = K (some ⟨b, i, none⟩) := fun b R K => by rw [hidx_1 _ _ _ _ (by omega) (by omega), Int.toNat_natCast, Nat.zero_add]
    have d0 := y b0
    have d1 := y b1
    have d2 := y b2
    have z0 := h.l0
    have z1 := T1.l1
    have z2 := T2.l2
    have hFi := hF i hin
    have hp2 : ∀ (R : Type) (KN : Int → Option Addr → Nat → Nat → Bool → Option Addr → Nat → Nat → Int → Int → Int → Int → Option R), R07_each_p2 k t q es.length cs bk (some ⟨bl, 0, none⟩) len c (i : Int) (f0.xs.getD i 0) (f1.xs.getD i 0) (f2.xs.getD i 0) KN = KN t q es.length cs bk (some ⟨bl, 0, none⟩) len c (i : Int) (F (f0.xs.getD i 0) (f1.xs.getD i 0) (f2.xs.getD i 0)).1 (F (f0.xs.getD i 0) (f1.xs.getD i 0) (f2.xs.getD i 0)).2.1 (F (f0.xs.getD i 0) (f1.xs.getD i 0) (f2.xs.getD i 0)).2.2 := fun R KN => by
      unfold R07_each_p2 R07_each_p2_b
      exact hFi R fun a b c' => KN t q es.length cs bk (some ⟨bl, 0, none⟩) len c (i : Int) a b c'
    unfold R07_each_l1 R07_each_l1_b
    repeat (first | (with_reducible refine (x0 _ _).trans ?_) | (with_reducible refine (x1 _ _).trans ?_) | (with_reducible refine (x2 _ _).trans ?_) | (with_reducible refine (y0 _ _).trans ?_) | (with_reducible refine (y1 _ _).trans ?_) | (with_reducible refine (y2 _ _).trans ?_) | (with_reducible refine (v0 _ _).trans ?_) | (with_reducible refine (v1 _ _).trans ?_) | (with_reducible refine (v2 _ _).trans ?_) | (with_reducible refine (hp2 _ _).trans ?_) | (with_reducible refine (r0 _ _).trans ?_) | (with_reducible refine (r1 _ _).trans ?_) | (with_reducible refine (r2 _ _).trans ?_) | (with_reducible refine (d0 _ _).trans ?_) | (with_reducible refine (d1 _ _).trans ?_) | (with_reducible refine (d2 _ _).trans ?_) | (with_reducible refine (u1 _ _).trans ?_) | (with_reducible refine (u2 _ _).trans ?_) | (with_reducible refine (u3 _ _).trans ?_) | ((with_reducible refine go_ip (x := ?_) ?_ ?_); rotate_left 1; (first | ((with_reducible refine (hcell_new _ _ _).trans ?_); rfl) | exact m04 | exact m14 | exact m24 | exact z0 | exact z1 | exact z2 | rfl)) | ((with_reducible refine go_bp (x := ?_) ?_ ?_); rotate_left 1; (first | ((with_reducible refine (hcell_new _ _ _).trans ?_); rfl) | exact m04 | exact m14 | exact m24 | exact z0 | exact z1 | exact z2 | rfl)) | ((with_reducible refine go_lp (x := ?_) (l := ?_) (c := ?_) ?_ ?_); rotate_left 3; (first | ((with_reducible refine (hcell_new _ _ _).trans ?_); rfl) | exact m04 | exact m14 | exact m24 | exact z0 | exact z1 | exact z2 | rfl)) | ((with_reducible refine go_pp (x := ?_) ?_ ?_); rotate_left 1; (first | ((with_reducible refine (hcell_new _ _ _).trans ?_); rfl) | exact m04 | exact m14 | exact m24 | exact z0 | exact z1 | exact z2 | rfl)) | ((with_reducible refine go_i (x := ?_) ?_ ?_); rotate_left 1; (first | ((with_reducible refine (hcell_new _ _ _).trans ?_); rfl) | exact m04 | exact m14 | exact m24 | exact z0 | exact z1 | exact z2 | rfl)) | ((with_reducible refine go_b (x := ?_) ?_ ?_); rotate_left 1; (first | ((with_reducible refine (hcell_new _ _ _).trans ?_); rfl) | exact m04 | exact m14 | exact m24 | exact z0 | exact z1 | exact z2 | rfl)) | ((with_reducible refine go_l (x := ?_) (l := ?_) (c := ?_) ?_ ?_); rotate_left 3; (first | ((with_reducible refine (hcell_new _ _ _).trans ?_); rfl) | exact m04 | exact m14 | exact m24 | exact z0 | exact z1 | exact z2 | rfl)) | ((with_reducible refine go_p (x := ?_) ?_ ?_); rotate_left 1; (first | ((with_reducible refine (hcell_new _ _ _).trans ?_); rfl) | exact m04 | exact m14 | exact m24 | exact z0 | exact z1 | exact z2 | rfl)) | ((with_reducible refine go_halst rfl ?_ ?_ ?_); rfl; rfl) | (with_reducible refine go_halN rfl ?_) | (with_reducible refine go_t ed ?_) | (with_reducible refine go_f ed ?_) | ((with_reducible refine go_t ?_ ?_); (show _ = true; rfl)) | ((with_reducible refine go_f ?_ ?_); (show _ = false; rfl)) | (with_reducible refine go_ne ?_) | (with_reducible refine go_eq ?_) | (with_reducible refine go_fad ?_) | (with_reducible refine go_nil ?_))
    rw [w]
    exact e4 _ _
theorem each_eq {k : Nat} (hk : 500 < k) (F : Int → Int → Int → Int × Int × Int) (t : Int) (bk : Bool) {H0 : Heap} {q : Option Addr} {es : List Pr} (c : Nat) (hP : Pls H0 q es) (hl : es.length ≤ 6) (hx : ∀ e ∈ es, e.xs.length ≤ 400) (h3 : (t == 0) = false → 3 ≤ es.length ∧ ∃ n, ∀ e ∈ es.take 3, e.xs.length = n)
    (hF : (t == 0) = false → ∀ f0 f1 f2 r, es = f0 :: f1 :: f2 :: r → ∀ i, ∀ (R : Type) (K : Int → Int → Int → Option R), (bif bk then R07_Inverse t (f0.xs.getD i 0) (f1.xs.getD i 0) (f2.xs.getD i 0) K else R07_Forward t (f0.xs.getD i 0) (f1.xs.getD i 0) (f2.xs.getD i 0) K) = K (F (f0.xs.getD i 0) (f1.xs.getD i 0) (f2.xs.getD i 0)).1 (F (f0.xs.getD i 0) (f1.xs.getD i 0) (f2.xs.getD i 0)).2.1 (F (f0.xs.getD i 0) (f1.xs.getD i 0) (f2.xs.getD i 0)).2.2) : ∃ H' q2 c2 outs, (∀ (R : Type) (K : Option Addr → Nat → Nat → Heap → Option R), R07_each k t q es.length c bk H0 K = K q2 es.length c2 H') ∧ Outs H0.length H' q2 es.length c2 outs ∧ outs.map Pr.pl = trp F t (es.map Pr.pl) ∧ Old H0.length H0 H' := by
  obtain ⟨H1, q1, c1, outs, e1, U1, p1, o1⟩ := each_l0_eq k t bk c rfl hP hl hx es.length k 0 (by omega) (by omega) H0 none 0 [] (Old.refl _ _) (Outs.nil _ _) rfl
  simp only [Int.natCast_zero] at e1
  cases ht : t == 0 with
  | true =>
    refine ⟨H1, q1, c1, outs, fun R K => ?_, U1, by rw [p1]; unfold trp; rw [ht]; rfl, o1⟩
    unfold R07_each R07_each_b
    refine (e1 _ _).trans ?_
    exact go_t ht rfl
  | false =>
    obtain ⟨h3, n, hn⟩ := h3 ht
    obtain ⟨bl, c0, c1', c2', s0, s1, s2, b0, b1, b2, X, Y, Z, hq, T, hNb, hxyz, hr⟩ := U1.tri F p1 h3 hn
    obtain ⟨f0, f1, f2, r, rfl⟩ := three h3
    have hn4 : n ≤ 400 := by
      have := hn f0 (by simp)
      have := hx f0 (by simp)
      omega
    obtain ⟨rfl, rfl, rfl⟩ := hxyz f0 f1 f2 r rfl
    subst hq
    obtain ⟨H2, e2, T2, B2⟩ := each_l1_eq k F (N := 0) h3 hn4 t bk c1 c rfl rfl rfl (hn f0 (by simp)) (hn f1 (by simp)) (hn f2 (by simp)) hP hNb (fun i _ => hF ht f0 f1 f2 r rfl i) n k 0 (by omega) (by omega) H1 o1 T
    simp only [Int.natCast_zero] at e2
    obtain ⟨outs2, U2, p2⟩ := hr H2 T2 B2
    refine ⟨H2, _, c1, outs2, fun R K => ?_, U2, by rw [p2]; unfold trp; rw [ht]; rfl, o1.trans (B2.old hNb o1.1)⟩
    unfold R07_each R07_each_b
    refine (e1 _ _).trans ?_
    refine go_f ht ?_
    exact e2 _ _
end Go.Proofs.Ytoeoolnkndkefaa.Sh
