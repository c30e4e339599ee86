/- Color: change, with color_forward. -/
import Derived.Test.YtoeoolnkndkefaaClM
import Derived.Test.YtoeoolnkndkefaaSh2
set_option linter.unusedVariables false
set_option linter.unusedSimpArgs false
namespace Go.Proofs.Ytoeoolnkndkefaa.Sh
open Go.Proofs.Ytoeoolnkndkefaa.FW
theorem change_v35_l0_eq (k : Nat) (t : Int) {N : Nat} {H0 : Heap} {q : Option Addr} {es : List Pr} (c : Nat) (hN : N = H0.length) (hP : Pls H0 q es) (hl : es.length ≤ 6) (hx : ∀ e ∈ es, e.xs.length ≤ 400) : ∀ (m n i : Nat), m < n → es.length = i + m → ∀ (H : Heap) (q' : Option Addr) (c' : Nat) (outs : List Pr), Old N H0 H → Outs N H q' i c' outs → outs.map Pr.pl = (es.take i).map Pr.pl → ∃ H' q2 c2 outs2, (∀ (R : Type) (KE : Int → Option Addr → Nat → Nat → Heap → Option R), color_change_v35_l0 k KE n t q' i c' q es.length c ((es.length : Nat) : Int) (i : Int) H = KE t q2 es.length c2 H') ∧ Outs N H' q2 es.length c2 outs2 ∧ outs2.map Pr.pl = es.map Pr.pl ∧ Old N H0 H' := by
  intro m
  induction m with
  | zero =>
    intro n i hn hi H q' c' outs hO hU hm
    obtain ⟨n, rfl⟩ : ∃ n', n = n' + 1 := ⟨n - 1, by omega⟩
    have hi0 : i = es.length := by omega
    subst hi0
    refine ⟨H, q', c', outs, fun R KE => ?_, hU, by rw [hm, List.take_length], hO⟩
    have ed : decide (((es.length : Nat) : Int) < ((es.length : Nat) : Int)) = false := decide_eq_false (by omega)
    simp only [color_change_v35_l0, color_change_v35_l0_b, ed, cond_false]
  | succ m ih =>
    intro n i hn hi H q' c' outs hO hU hm
    obtain ⟨n, rfl⟩ : ∃ n', n = n' + 1 := ⟨n - 1, by omega⟩
    have ed : decide ((i : Int) < ((es.length : Nat) : Int)) = true := decide_eq_true (by omega)
    obtain ⟨e, he, hd⟩ := get_of hi
    have hN' : N ≤ H.length := by have := hO.1; omega
    have hPH : Pls H q es := hP.keep (hN ▸ hO)
    obtain ⟨b, o, e0, m0, m1, m2, m3, m4, hS⟩ := hPH.at he
    obtain ⟨q1, c1, H1, q3, H3, f, e1, e2, O3, hf, o3, n3⟩ := (hU.keep (Old.app H [e.blk])).copy (by simp; omega) (by omega) e ((hS.keep (Old.app H [e.blk])).keep (Old.app _ _)) (hx e (List.mem_of_getElem? he))
    have w := wnext (i := i) (l := es.length) (by omega) (by omega)
    obtain ⟨H', q2, c2, outs2, e3, r1, r2, r3⟩ := ih n (i + 1) (by omega) (by omega) H3 q3 unk (outs ++ [f]) (hO.trans (((Old.app H [e.blk]).mono hN').trans o3)) O3 (by rw [List.map_append, hm, List.take_add_one, he, List.map_append]; simp [hf])
    have mb : hcell (H ++ [e.blk] ++ [some ⟨[], false, 0⟩]) H.length (0 + 4) = some (.slice e.q e.xs.length e.c) := by rw [hcell_old (by simp)]; exact hcell_new _ _ _
    refine ⟨H', q2, c2, outs2, fun R KE => ?_, r1, r2, r3⟩
    unfold color_change_v35_l0 color_change_v35_l0_b
    repeat (first | (with_reducible refine (e0 _ _).trans ?_) | (with_reducible refine (e1 _ _).trans ?_) | (with_reducible refine (e2 _ _).trans ?_) | ((with_reducible refine go_ip (x := ?_) ?_ ?_); rotate_left 1; (first | ((with_reducible refine (hcell_new _ _ _).trans ?_); rfl) | exact m0 | exact m1 | exact m2 | exact m3 | exact m4 | exact mb | rfl)) | ((with_reducible refine go_bp (x := ?_) ?_ ?_); rotate_left 1; (first | ((with_reducible refine (hcell_new _ _ _).trans ?_); rfl) | exact m0 | exact m1 | exact m2 | exact m3 | exact m4 | exact mb | rfl)) | ((with_reducible refine go_lp (x := ?_) (l := ?_) (c := ?_) ?_ ?_); rotate_left 3; (first | ((with_reducible refine (hcell_new _ _ _).trans ?_); rfl) | exact m0 | exact m1 | exact m2 | exact m3 | exact m4 | exact mb | rfl)) | ((with_reducible refine go_pp (x := ?_) ?_ ?_); rotate_left 1; (first | ((with_reducible refine (hcell_new _ _ _).trans ?_); rfl) | exact m0 | exact m1 | exact m2 | exact m3 | exact m4 | exact mb | rfl)) | ((with_reducible refine go_i (x := ?_) ?_ ?_); rotate_left 1; (first | ((with_reducible refine (hcell_new _ _ _).trans ?_); rfl) | exact m0 | exact m1 | exact m2 | exact m3 | exact m4 | exact mb | rfl)) | ((with_reducible refine go_b (x := ?_) ?_ ?_); rotate_left 1; (first | ((with_reducible refine (hcell_new _ _ _).trans ?_); rfl) | exact m0 | exact m1 | exact m2 | exact m3 | exact m4 | exact mb | rfl)) | ((with_reducible refine go_l (x := ?_) (l := ?_) (c := ?_) ?_ ?_); rotate_left 3; (first | ((with_reducible refine (hcell_new _ _ _).trans ?_); rfl) | exact m0 | exact m1 | exact m2 | exact m3 | exact m4 | exact mb | rfl)) | ((with_reducible refine go_p (x := ?_) ?_ ?_); rotate_left 1; (first | ((with_reducible refine (hcell_new _ _ _).trans ?_); rfl) | exact m0 | exact m1 | exact m2 | exact m3 | exact m4 | exact mb | rfl)) | ((with_reducible refine go_halst rfl ?_ ?_ ?_); rfl; rfl) | (with_reducible refine go_halN rfl ?_) | (with_reducible refine go_t ed ?_) | (with_reducible refine go_f ed ?_) | ((with_reducible refine go_t ?_ ?_); (show _ = true; rfl)) | ((with_reducible refine go_f ?_ ?_); (show _ = false; rfl)) | (with_reducible refine go_ne ?_) | (with_reducible refine go_eq ?_) | (with_reducible refine go_fad ?_) | (with_reducible refine go_nil ?_))
    rw [w]
    exact e3 _ _
theorem change_v35_l2_eq (k : Nat) {H : Heap} {bl n s0 s1 s2 b0 b1 b2 c0 c1 c2 : Nat} {l : List Value} {g0 g1 g2 : Nat → Value} {len : Nat} (h : Tri3 H bl l n b0 b1 b2 c0 c1 c2 s0 s1 s2 g0 g1 g2) (hlen : 3 ≤ len) {i : Nat} (hi : i < n) (t : Int) (c : Nat) (x y v0 v1 v2 : Int) : ∃ H', (∀ (R : Type) (f : Nat) (KE : Int → Option Addr → Nat → Nat → Int → Int → Heap → Option R), color_change_v35_l2 k KE (f + 4) t (some ⟨bl, 0, none⟩) len c (i : Int) x y v0 v1 v2 0 H = KE t (some ⟨bl, 0, none⟩) len c x y H') ∧
    Tri3 H' bl l n b0 b1 b2 c0 c1 c2 s0 s1 s2 (fun j => if j = i then .int .i64 v0 else g0 j) (fun j => if j = i then .int .i64 v1 else g1 j) (fun j => if j = i then .int .i64 v2 else g2 j) ∧ But3 b0 b1 b2 H H' := by
  obtain ⟨H1, p1, T1, B1⟩ := h.put0 hi (.int .i64 v0)
  obtain ⟨H2, p2, T2, B2⟩ := T1.put1 hi (.int .i64 v1)
  obtain ⟨H3, p3, T3, B3⟩ := T2.put2 hi (.int .i64 v2)
  refine ⟨H3, fun R f KE => ?_, T3, (B1.trans B2).trans B3⟩
  have w1 : IntKind.wrap .i64 (0 + 1) = 1 := rfl
  have w2 : IntKind.wrap .i64 (1 + 1) = 2 := rfl
  have w3 : IntKind.wrap .i64 (2 + 1) = 3 := rfl
  have x0 : ∀ (R : Type) (K : Option Addr → Option R), hidx (some ⟨bl, 0, none⟩) len 0 5 K = K (some ⟨bl, 0, none⟩) := fun R K => by simp only [hidx]; rw [if_pos ⟨by omega, by omega⟩]; rfl
  have x1 : ∀ (R : Type) (K : Option Addr → Option R), hidx (some ⟨bl, 0, none⟩) len 1 5 K = K (some ⟨bl, 5, none⟩) := fun R K => by simp only [hidx]; rw [if_pos ⟨by omega, by omega⟩]; rfl
  have x2 : ∀ (R : Type) (K : Option Addr → Option R), hidx (some ⟨bl, 0, none⟩) len 2 5 K = K (some ⟨bl, 10, none⟩) := fun R K => by simp only [hidx]; rw [if_pos ⟨by omega, by omega⟩]; rfl
  have y : ∀ (b : Nat) (R : Type) (K : Option Addr → Option R), hidx (some ⟨b, 0, none⟩) n (i : Int) 1 K = K (some ⟨b, i, none⟩) := fun b R K => by rw [hidx_1 _ _ _ _ (by omega) (by omega), Int.toNat_natCast, Nat.zero_add]
  have y0 := y b0
  have y1 := y b1
  have y2 := y b2
  have z0 := h.l0
  have z1 := T1.l1
  have z2 := T2.l2
  have a0 : ∀ (R : Type) (K : Int → Option R), (vat [.int .i64 v0, .int .i64 v1, .int .i64 v2] 3 1 0 fun v => asI .i64 v K) = K v0 := fun R K => rfl
  have a1 : ∀ (R : Type) (K : Int → Option R), (vat [.int .i64 v0, .int .i64 v1, .int .i64 v2] 3 1 1 fun v => asI .i64 v K) = K v1 := fun R K => rfl
  have a2 : ∀ (R : Type) (K : Int → Option R), (vat [.int .i64 v0, .int .i64 v1, .int .i64 v2] 3 1 2 fun v => asI .i64 v K) = K v2 := fun R K => rfl
  unfold color_change_v35_l2 color_change_v35_l2_b
  rw [w1]
  unfold color_change_v35_l2 color_change_v35_l2_b
  rw [w2]
  unfold color_change_v35_l2 color_change_v35_l2_b
  rw [w3]
  unfold color_change_v35_l2 color_change_v35_l2_b
  repeat (first | (with_reducible refine (a0 _ _).trans ?_) | (with_reducible refine (a1 _ _).trans ?_) | (with_reducible refine (a2 _ _).trans ?_) | (with_reducible refine (x0 _ _).trans ?_) | (with_reducible refine (x1 _ _).trans ?_) | (with_reducible refine (x2 _ _).trans ?_) | (with_reducible refine (y0 _ _).trans ?_) | (with_reducible refine (y1 _ _).trans ?_) | (with_reducible refine (y2 _ _).trans ?_) | (with_reducible refine (p1 _ _).trans ?_) | (with_reducible refine (p2 _ _).trans ?_) | (with_reducible refine (p3 _ _).trans ?_) | ((with_reducible refine go_ip (x := ?_) ?_ ?_); rotate_left 1; (first | ((with_reducible refine (hcell_new _ _ _).trans ?_); rfl) | exact z0 | exact z1 | exact z2 | rfl)) | ((with_reducible refine go_bp (x := ?_) ?_ ?_); rotate_left 1; (first | ((with_reducible refine (hcell_new _ _ _).trans ?_); rfl) | exact z0 | exact z1 | exact z2 | rfl)) | ((with_reducible refine go_lp (x := ?_) (l := ?_) (c := ?_) ?_ ?_); rotate_left 3; (first | ((with_reducible refine (hcell_new _ _ _).trans ?_); rfl) | exact z0 | exact z1 | exact z2 | rfl)) | ((with_reducible refine go_pp (x := ?_) ?_ ?_); rotate_left 1; (first | ((with_reducible refine (hcell_new _ _ _).trans ?_); rfl) | exact z0 | exact z1 | exact z2 | rfl)) | ((with_reducible refine go_i (x := ?_) ?_ ?_); rotate_left 1; (first | ((with_reducible refine (hcell_new _ _ _).trans ?_); rfl) | exact z0 | exact z1 | exact z2 | rfl)) | ((with_reducible refine go_b (x := ?_) ?_ ?_); rotate_left 1; (first | ((with_reducible refine (hcell_new _ _ _).trans ?_); rfl) | exact z0 | exact z1 | exact z2 | rfl)) | ((with_reducible refine go_l (x := ?_) (l := ?_) (c := ?_) ?_ ?_); rotate_left 3; (first | ((with_reducible refine (hcell_new _ _ _).trans ?_); rfl) | exact z0 | exact z1 | exact z2 | rfl)) | ((with_reducible refine go_p (x := ?_) ?_ ?_); rotate_left 1; (first | ((with_reducible refine (hcell_new _ _ _).trans ?_); rfl) | exact z0 | exact z1 | exact z2 | rfl)) | ((with_reducible refine go_halst rfl ?_ ?_ ?_); rfl; rfl) | (with_reducible refine go_halN rfl ?_) | ((with_reducible refine go_t ?_ ?_); (show _ = true; rfl)) | ((with_reducible refine go_f ?_ ?_); (show _ = false; rfl)) | (with_reducible refine go_ne ?_) | (with_reducible refine go_eq ?_) | (with_reducible refine go_fad ?_) | (with_reducible refine go_nil ?_))
  rfl
theorem change_v35_l1_eq (k : Nat) (hk : 500 < k) {bl n s0 s1 s2 b0 b1 b2 c0 c1 c2 : Nat} {l : List Value} {X Y Z : List Int} {len : Nat} (hlen : 3 ≤ len) (hn : n ≤ 400) (t : Int) (c : Nat) : ∀ (m f i : Nat), m < f → n = i + m → ∀ (H : Heap), Tri3 H bl l n b0 b1 b2 c0 c1 c2 s0 s1 s2 (mx (fwd t) X Y Z pr0 i) (mx (fwd t) X Y Z pr1 i) (mx (fwd t) X Y Z pr2 i) → ∃ H', (∀ (R : Type) (KE : Option Addr → Nat → Nat → Heap → Option R), color_change_v35_l1 k KE f t (some ⟨bl, 0, none⟩) len c ((n : Nat) : Int) (i : Int) H = KE (some ⟨bl, 0, none⟩) len c H') ∧
    Tri3 H' bl l n b0 b1 b2 c0 c1 c2 s0 s1 s2 (mx (fwd t) X Y Z pr0 n) (mx (fwd t) X Y Z pr1 n) (mx (fwd t) X Y Z pr2 n) ∧ But3 b0 b1 b2 H H' := by
  intro m
  induction m with
  | zero =>
    intro f i hf hi H h
    obtain ⟨f, rfl⟩ : ∃ f', f = f' + 1 := ⟨f - 1, by omega⟩
    have hi0 : i = n := by omega
    subst hi0
    have ed : decide (((i : Nat) : Int) < ((i : Nat) : Int)) = false := decide_eq_false (by omega)
    refine ⟨H, fun R KE => ?_, h, .refl _ _ _ _⟩
    simp only [color_change_v35_l1, color_change_v35_l1_b, ed, cond_false]
  | succ m ih =>
    intro f i hf hi H h
    obtain ⟨f, rfl⟩ : ∃ f', f = f' + 1 := ⟨f - 1, by omega⟩
    obtain ⟨kk, rfl⟩ : ∃ kk, k = kk + 4 := ⟨k - 4, by omega⟩
    have hin : i < n := by omega
    have ed : decide (((i : Nat) : Int) < ((n : Nat) : Int)) = true := decide_eq_true (by omega)
    obtain ⟨J, ef⟩ := forward_eq t (X.getD i 0) (Y.getD i 0) (Z.getD i 0) (roH H)
    have hT1 := h.app (J := [some ⟨[.int .i64 (fwd t (X.getD i 0) (Y.getD i 0) (Z.getD i 0)).1, .int .i64 (fwd t (X.getD i 0) (Y.getD i 0) (Z.getD i 0)).2.1, .int .i64 (fwd t (X.getD i 0) (Y.getD i 0) (Z.getD i 0)).2.2], false, 0⟩])
    obtain ⟨H2, e2, T2, B2⟩ := change_v35_l2_eq (kk + 4) hT1 hlen hin t c ((n : Nat) : Int) (i : Int) (fwd t (X.getD i 0) (Y.getD i 0) (Z.getD i 0)).1 (fwd t (X.getD i 0) (Y.getD i 0) (Z.getD i 0)).2.1 (fwd t (X.getD i 0) (Y.getD i 0) (Z.getD i 0)).2.2
    have T2' := T2.congr (mx_next (fwd t) X Y Z pr0 i) (mx_next (fwd t) X Y Z pr1 i) (mx_next (fwd t) X Y Z pr2 i)
    obtain ⟨H3, e3, T3, B3⟩ := ih f (i + 1) (by omega) (by omega) H2 T2'
    have w := wnext (i := i) (l := n) (by omega) (by omega)
    refine ⟨H3, fun R KE => ?_, T3, ((But3.app _ _ _ _ _).trans B2).trans B3⟩
    have x0 : ∀ (R : Type) (K : Option Addr → Option R), hidx (some ⟨bl, 0, none⟩) len 0 5 K = K (some ⟨bl, 0, none⟩) := fun R K => by simp only [hidx]; rw [if_pos ⟨by omega, by omega⟩]; rfl
    have x1 : ∀ (R : Type) (K : Option Addr → Option R), hidx (some ⟨bl, 0, none⟩) len 1 5 K = K (some ⟨bl, 5, none⟩) := fun R K => by simp only [hidx]; rw [if_pos ⟨by omega, by omega⟩]; rfl
    have x2 : ∀ (R : Type) (K : Option Addr → Option R), hidx (some ⟨bl, 0, none⟩) len 2 5 K = K (some ⟨bl, 10, none⟩) := fun R K => by simp only [hidx]; rw [if_pos ⟨by omega, by omega⟩]; rfl
    have y : ∀ (b : Nat) (R : Type) (K : Option Addr → Option R), hidx (some ⟨b, 0, none⟩) n (i : Int) 1 K = K (some ⟨b, i, none⟩) := fun b R K => by rw [hidx_1 _ _ _ _ (by omega) (by omega), Int.toNat_natCast, Nat.zero_add]
    have y0 := y b0
    have y1 := y b1
    have y2 := y b2
    have z0 := h.l0
    have z1 := h.l1
    have z2 := h.l2
    have v0 := h.v0 hin (mx_at (fwd t) X Y Z pr0 i)
    have v1 := h.v1 hin (mx_at (fwd t) X Y Z pr1 i)
    have v2 := h.v2 hin (mx_at (fwd t) X Y Z pr2 i)
    unfold color_change_v35_l1 color_change_v35_l1_b
    repeat (first | (with_reducible refine (x0 _ _).trans ?_) | (with_reducible refine (x1 _ _).trans ?_) | (with_reducible refine (x2 _ _).trans ?_) | (with_reducible refine (y0 _ _).trans ?_) | (with_reducible refine (y1 _ _).trans ?_) | (with_reducible refine (y2 _ _).trans ?_) | (with_reducible refine (ef _ _).trans ?_) | ((with_reducible refine go_ip (x := ?_) ?_ ?_); rotate_left 1; (first | ((with_reducible refine (hcell_new _ _ _).trans ?_); rfl) | exact z0 | exact z1 | exact z2 | exact v0 | exact v1 | exact v2 | rfl)) | ((with_reducible refine go_bp (x := ?_) ?_ ?_); rotate_left 1; (first | ((with_reducible refine (hcell_new _ _ _).trans ?_); rfl) | exact z0 | exact z1 | exact z2 | exact v0 | exact v1 | exact v2 | rfl)) | ((with_reducible refine go_lp (x := ?_) (l := ?_) (c := ?_) ?_ ?_); rotate_left 3; (first | ((with_reducible refine (hcell_new _ _ _).trans ?_); rfl) | exact z0 | exact z1 | exact z2 | exact v0 | exact v1 | exact v2 | rfl)) | ((with_reducible refine go_pp (x := ?_) ?_ ?_); rotate_left 1; (first | ((with_reducible refine (hcell_new _ _ _).trans ?_); rfl) | exact z0 | exact z1 | exact z2 | exact v0 | exact v1 | exact v2 | rfl)) | ((with_reducible refine go_i (x := ?_) ?_ ?_); rotate_left 1; (first | ((with_reducible refine (hcell_new _ _ _).trans ?_); rfl) | exact z0 | exact z1 | exact z2 | exact v0 | exact v1 | exact v2 | rfl)) | ((with_reducible refine go_b (x := ?_) ?_ ?_); rotate_left 1; (first | ((with_reducible refine (hcell_new _ _ _).trans ?_); rfl) | exact z0 | exact z1 | exact z2 | exact v0 | exact v1 | exact v2 | rfl)) | ((with_reducible refine go_l (x := ?_) (l := ?_) (c := ?_) ?_ ?_); rotate_left 3; (first | ((with_reducible refine (hcell_new _ _ _).trans ?_); rfl) | exact z0 | exact z1 | exact z2 | exact v0 | exact v1 | exact v2 | rfl)) | ((with_reducible refine go_p (x := ?_) ?_ ?_); rotate_left 1; (first | ((with_reducible refine (hcell_new _ _ _).trans ?_); rfl) | exact z0 | exact z1 | exact z2 | exact v0 | exact v1 | exact v2 | rfl)) | ((with_reducible refine go_halst rfl ?_ ?_ ?_); rfl; rfl) | (with_reducible refine go_halN rfl ?_) | (with_reducible refine go_t ed ?_) | (with_reducible refine go_f ed ?_) | ((with_reducible refine go_t ?_ ?_); (show _ = true; rfl)) | ((with_reducible refine go_f ?_ ?_); (show _ = false; rfl)) | (with_reducible refine go_ne ?_) | (with_reducible refine go_eq ?_) | (with_reducible refine go_fad ?_) | (with_reducible refine go_nil ?_))
    refine (e2 _ _ _).trans ?_
    rw [w]
    exact e3 _ _
theorem change_v35_eq {k : Nat} (hk : 500 < k) (t : Int) {H0 : Heap} {q : Option Addr} {es : List Pr} (c : Nat) (hP : Pls H0 q es) (hl : es.length ≤ 6) (hx : ∀ e ∈ es, e.xs.length ≤ 400) (h3 : (t == 0) = false → 3 ≤ es.length ∧ ∃ n, ∀ e ∈ es.take 3, e.xs.length = n) : ∃ H' q2 c2 outs, (∀ (R : Type) (K : Option Addr → Nat → Nat → Heap → Option R), color_change_v35 k t q es.length c H0 K = K q2 es.length c2 H') ∧ Outs H0.length H' q2 es.length c2 outs ∧ outs.map Pr.pl = trp (fwd t) t (es.map Pr.pl) ∧ Old H0.length H0 H' := by
  obtain ⟨H1, q1, c1, outs, e1, U1, p1, o1⟩ := change_v35_l0_eq k t c rfl hP hl hx es.length k 0 (by omega) (by omega) H0 none 0 [] (Old.refl _ _) (Outs.nil _ _) rfl
  simp only [Int.natCast_zero] at e1
  cases ht : t == 0 with
  | true =>
    refine ⟨H1, q1, c1, outs, fun R K => ?_, U1, by rw [p1]; unfold trp; rw [ht]; rfl, o1⟩
    unfold color_change_v35 color_change_v35_b
    refine (e1 _ _).trans ?_
    exact go_t ht rfl
  | false =>
    obtain ⟨h3, n, hn⟩ := h3 ht
    obtain ⟨bl, c0, c1', c2', s0, s1, s2, b0, b1, b2, X, Y, Z, hq, T, hNb, _, hr⟩ := U1.tri (fwd t) p1 h3 hn
    have hn4 : n ≤ 400 := by
      obtain ⟨f0, f1, f2, r, rfl⟩ := three h3
      have := hn f0 (by simp)
      have := hx f0 (by simp)
      omega
    subst hq
    obtain ⟨H2, e2, T2, B2⟩ := change_v35_l1_eq k hk h3 hn4 t c1 n k 0 (by omega) (by omega) H1 T
    simp only [Int.natCast_zero] at e2
    obtain ⟨outs2, U2, p2⟩ := hr H2 T2 B2
    refine ⟨H2, _, c1, outs2, fun R K => ?_, U2, by rw [p2]; unfold trp; rw [ht]; rfl, o1.trans (B2.old hNb o1.1)⟩
    have x0 : ∀ (R : Type) (K : Option Addr → Option R), hidx (some ⟨bl, 0, none⟩) es.length 0 5 K = K (some ⟨bl, 0, none⟩) := fun R K => by simp only [hidx]; rw [if_pos ⟨by omega, by omega⟩]; rfl
    have z0 := T.l0
    unfold color_change_v35 color_change_v35_b
    refine (e1 _ _).trans ?_
    repeat (first | (with_reducible refine (x0 _ _).trans ?_) | ((with_reducible refine go_ip (x := ?_) ?_ ?_); rotate_left 1; (first | ((with_reducible refine (hcell_new _ _ _).trans ?_); rfl) | exact z0 | rfl)) | ((with_reducible refine go_bp (x := ?_) ?_ ?_); rotate_left 1; (first | ((with_reducible refine (hcell_new _ _ _).trans ?_); rfl) | exact z0 | rfl)) | ((with_reducible refine go_lp (x := ?_) (l := ?_) (c := ?_) ?_ ?_); rotate_left 3; (first | ((with_reducible refine (hcell_new _ _ _).trans ?_); rfl) | exact z0 | rfl)) | ((with_reducible refine go_pp (x := ?_) ?_ ?_); rotate_left 1; (first | ((with_reducible refine (hcell_new _ _ _).trans ?_); rfl) | exact z0 | rfl)) | ((with_reducible refine go_i (x := ?_) ?_ ?_); rotate_left 1; (first | ((with_reducible refine (hcell_new _ _ _).trans ?_); rfl) | exact z0 | rfl)) | ((with_reducible refine go_b (x := ?_) ?_ ?_); rotate_left 1; (first | ((with_reducible refine (hcell_new _ _ _).trans ?_); rfl) | exact z0 | rfl)) | ((with_reducible refine go_l (x := ?_) (l := ?_) (c := ?_) ?_ ?_); rotate_left 3; (first | ((with_reducible refine (hcell_new _ _ _).trans ?_); rfl) | exact z0 | rfl)) | ((with_reducible refine go_p (x := ?_) ?_ ?_); rotate_left 1; (first | ((with_reducible refine (hcell_new _ _ _).trans ?_); rfl) | exact z0 | rfl)) | ((with_reducible refine go_halst rfl ?_ ?_ ?_); rfl; rfl) | (with_reducible refine go_halN rfl ?_) | (with_reducible refine go_t ht ?_) | (with_reducible refine go_f ht ?_) | ((with_reducible refine go_t ?_ ?_); (show _ = true; rfl)) | ((with_reducible refine go_f ?_ ?_); (show _ = false; rfl)) | (with_reducible refine go_ne ?_) | (with_reducible refine go_eq ?_) | (with_reducible refine go_fad ?_) | (with_reducible refine go_nil ?_))
    exact e2 _ _
end Go.Proofs.Ytoeoolnkndkefaa.Sh
