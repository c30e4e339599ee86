/- BitioWrites: the program's writer and the reference's return the same, and come to the same bytes. -/
import Derived.Test.YtiapgcgpdndkiaaBtH
import Derived.Test.YtiapgcgpdndkiaaSh9
set_option linter.unusedVariables false
set_option linter.unusedSimpArgs false
namespace Go.Proofs.Ytiapgcgpdndkiaa.Sh
open Go.Proofs.Ytiapgcgpdndkiaa.FW Go.IntWalk
theorem ba_beq (s : ByteArray) : (s == s) = true := by
  show (s.data == s.data) = true
  exact beq_self_eq_true _
theorem same_self {H : Heap} {q q2 : Option Addr} {l : List Int} (c c2 : Nat) (h : Shows H q (byt l)) (h2 : Shows H q2 (byt l)) (R : Type) (K : Bool → Option R) : R09_SameBytes q l.length c q2 l.length c2 H K = K true := by
  unfold R09_SameBytes R09_SameBytes_b
  refine (b2s_eq h _ _).trans ((b2s_eq h2 _ _).trans ?_)
  rw [ba_beq]
theorem Wr.keep {N : Nat} {H H' : Heap} {p : Nat} {q : Option Addr} {l : List Int} (h : Wr N H p q l) (o : Old H.length H H') : Wr N H' p q l := by
  obtain ⟨c, b, pre, t, e1, e2, e3, h1, h2, e4⟩ := h.c
  exact ⟨⟨c, b, pre, t, e1, e2, e3, h1.old o h1.lt, h2.old o (Nat.le_refl _), e4⟩, h.low, h.apt, h.b01⟩
theorem Ur.keep {N : Nat} {H H' : Heap} {p : Nat} {q : Option Addr} {l : List Int} (h : Ur N H p q l) (o : Old H.length H H') : Ur N H' p q l := by
  obtain ⟨c, h1, h2⟩ := h.c
  exact ⟨⟨c, h1.old o h1.lt, h2.old o (Nat.le_refl _)⟩, h.low, h.apt⟩
/-- Two writers of the same bits. -/
structure Two (N : Nat) (H : Heap) (p : Nat) (q : Option Addr) (p2 : Nat) (q2 : Option Addr) (l : List Int) : Prop where
  w : Wr N H p q l
  u : Ur N H p2 q2 l
  a : Apt p q p2 q2
theorem writes_l {k : Nat} (hk : 100000 < k) {ops : List Op3} (c : Nat) {q0 : Option Addr} {H0 : Heap} (hS : Shows H0 q0 (ops.flatMap opc)) (hl : ops.length ≤ 200) (hu : uns ops ≤ 70000) (hwf : ∀ o ∈ ops, wf3 o) : ∀ (m n i : Nat), m < n → ops.length = i + m → ∀ (H : Heap) (p : Nat) (q : Option Addr) (p2 : Nat) (q2 : Option Addr) (l : List Int), Two H0.length H p q p2 q2 l → Old H0.length H0 H → l.length ≤ i * 64 + uns (ops.take i) →
    ∃ H' q' q2' l', (∀ (R : Type) (KE : Option Addr → Option Addr → Heap → Option R) (KR : Bool → Heap → Option R), L_BitioWrites_l0 k KE KR n (some ⟨p, 0, none⟩) (some ⟨p2, 0, none⟩) q0 ops.length c ((ops.length : Nat) : Int) (i : Int) H = KE (some ⟨p, 0, none⟩) (some ⟨p2, 0, none⟩) H') ∧ Two H0.length H' p q' p2 q2' l' ∧ Old H0.length H0 H' ∧ l'.length ≤ 100000 := by
  have hlow := shows_below hS
  intro m
  induction m with
  | zero =>
    intro n i hn hi H p q p2 q2 l T hO hL
    obtain ⟨n, rfl⟩ : ∃ n', n = n' + 1 := ⟨n - 1, by omega⟩
    have ed : decide ((i : Int) < ((ops.length : Nat) : Int)) = false := decide_eq_false (by omega)
    have : uns (ops.take i) = uns ops := by rw [List.take_of_length_le (by omega)]
    refine ⟨H, q, q2, l, fun R KE KR => ?_, T, hO, by omega⟩
    unfold L_BitioWrites_l0 L_BitioWrites_l0_b
    exact go_f ed rfl
  | succ m ih =>
    intro n i hn hi H p q p2 q2 l T hO hL
    obtain ⟨n, rfl⟩ : ∃ n', n = n' + 1 := ⟨n - 1, by omega⟩
    have ed : decide ((i : Int) < ((ops.length : Nat) : Int)) = true := decide_eq_true (by omega)
    obtain ⟨o, ho⟩ : ∃ o, ops[i]? = some o := ⟨_, List.getElem?_eq_getElem (by omega)⟩
    have hs : uns (ops.take (i + 1)) = uns (ops.take i) + un o := by rw [take_succ ho]; simp [uns]
    have hle : uns (ops.take (i + 1)) ≤ uns ops := by
      have e : uns ops = uns (ops.take (i + 1)) + uns (ops.drop (i + 1)) := by
        unfold uns; rw [← List.sum_append, ← List.map_append, List.take_append_drop]
      omega
    have hwl := wO_len o
    have hv := (wf_le (hwf o (List.mem_of_getElem? ho)).2.1).2
    obtain ⟨b, f, e0, g0, g1, g2⟩ := op_at (hS.old hO hlow) ho
    have hN : H0.length ≤ H.length := by have := hO.1; omega
    obtain ⟨H2, hH2⟩ : ∃ H2, H2 = H ++ [some ⟨[.int .i64 o.1, .int .i64 o.2.1, .int .i64 o.2.2], false, 0⟩] := ⟨_, rfl⟩
    have o2 : Old H.length H H2 := hH2 ▸ Old.app _ _
    have O2 : Owns H2 H.length [.int .i64 o.1, .int .i64 o.2.1, .int .i64 o.2.2] 0 := by rw [hH2]; exact hblk_new H _
    have m2 : ∀ i, hcell H2 H.length i = [Value.int .i64 o.1, .int .i64 o.2.1, .int .i64 o.2.2][i]? := fun i => O2.sees.cell i
    obtain ⟨H3, e3, m3, r3, b3, n3⟩ := frz_own (o := 0) (s := none) O2
    have o3 : Old H.length H H3 := o2.trans (b3.old (Nat.le_refl _) o2.1)
    have W3 := T.w.keep o3
    have U3 := T.u.keep o3
    have hN3 : H0.length ≤ H3.length := by have := o3.1; omega
    obtain ⟨q4, H4, e4, W4, S4⟩ := write_eq hk W3 hN3 (by omega) o hv
    have U4 := U3.stp S4 T.a
    have A4 := T.a.step S4 U3.lt U3.qlt
    obtain ⟨q5, H5, e5, U5, S5⟩ := writeRef_eq hk U4 (by have := S4.len; omega) (by omega) o hv
    have W5 := W4.stp S5 A4.symm
    have A5 := (A4.symm.step S5 W4.lt W4.qlt).symm
    have hro := r3 0 none
    have l1 := len_eq W5
    have l2 := uLen_eq k U5
    have w := w64 (n := (i : Int) + 1) (by omega) (by omega)
    have O5 : Old H0.length H0 H5 := ((hO.trans (o3.mono hN)).trans (S4.below W3.low W3.qlow hN3)).trans (S5.below U4.low U4.qlow (by have := S4.len; omega))
    obtain ⟨H', q', q2', l', e6, T6, O6, L6⟩ := ih n (i + 1) (by omega) (by omega) H5 p q4 p2 q5 _ ⟨W5, U5, A5⟩ O5 (by rw [List.length_append]; omega)
    refine ⟨H', q', q2', l', fun R KE KR => ?_, T6, O6, L6⟩
    unfold L_BitioWrites_l0 L_BitioWrites_l0_b L_BitioWrites_p1 L_BitioWrites_p1_b
    repeat (first | (with_reducible refine (e0 _ _).trans ?_) | (with_reducible refine (e3 _ _).trans ?_) | (with_reducible refine (e4 _ _).trans ?_) | (with_reducible refine (e5 _ _).trans ?_) | (with_reducible refine (l1 _ _).trans ?_) | (with_reducible refine (l2 _ _).trans ?_) | ((with_reducible refine go_ip (x := ?_) ?_ ?_); rotate_left 1; (first | ((with_reducible refine (m2 _).trans ?_); rfl) | ((with_reducible refine (m3 _).trans ?_); rfl) | exact g0 | exact g1 | exact g2 | rfl)) | ((with_reducible refine go_bp (x := ?_) ?_ ?_); rotate_left 1; (first | ((with_reducible refine (m2 _).trans ?_); rfl) | ((with_reducible refine (m3 _).trans ?_); rfl) | exact g0 | exact g1 | exact g2 | rfl)) | ((with_reducible refine go_lp (x := ?_) (l := ?_) (c := ?_) ?_ ?_); rotate_left 3; (first | ((with_reducible refine (m2 _).trans ?_); rfl) | ((with_reducible refine (m3 _).trans ?_); rfl) | exact g0 | exact g1 | exact g2 | rfl)) | ((with_reducible refine go_pp (x := ?_) ?_ ?_); rotate_left 1; (first | ((with_reducible refine (m2 _).trans ?_); rfl) | ((with_reducible refine (m3 _).trans ?_); rfl) | exact g0 | exact g1 | exact g2 | rfl)) | ((with_reducible refine go_i (x := ?_) ?_ ?_); rotate_left 1; (first | ((with_reducible refine (m2 _).trans ?_); rfl) | ((with_reducible refine (m3 _).trans ?_); rfl) | exact g0 | exact g1 | exact g2 | rfl)) | ((with_reducible refine go_b (x := ?_) ?_ ?_); rotate_left 1; (first | ((with_reducible refine (m2 _).trans ?_); rfl) | ((with_reducible refine (m3 _).trans ?_); rfl) | exact g0 | exact g1 | exact g2 | rfl)) | ((with_reducible refine go_l (x := ?_) (l := ?_) (c := ?_) ?_ ?_); rotate_left 3; (first | ((with_reducible refine (m2 _).trans ?_); rfl) | ((with_reducible refine (m3 _).trans ?_); rfl) | exact g0 | exact g1 | exact g2 | rfl)) | ((with_reducible refine go_p (x := ?_) ?_ ?_); rotate_left 1; (first | ((with_reducible refine (m2 _).trans ?_); rfl) | ((with_reducible refine (m3 _).trans ?_); rfl) | exact g0 | exact g1 | exact g2 | rfl)) | ((with_reducible refine go_halst hH2 ?_ ?_ ?_); rfl; rfl) | (with_reducible refine go_halN hH2 ?_) | (with_reducible refine go_t ed ?_) | (with_reducible refine go_f ed ?_) | (with_reducible refine go_t hro ?_) | (with_reducible refine go_f hro ?_) | ((with_reducible refine go_t ?_ ?_); (show _ = true; rfl)) | ((with_reducible refine go_f ?_ ?_); (show _ = false; rfl)) | (with_reducible refine go_ne ?_) | (with_reducible refine go_eq ?_) | (with_reducible refine go_fad ?_) | (with_reducible refine go_nil ?_))
    try dsimp only
    rw [w]
    exact e6 _ _ _
theorem two_new {H0 H : Heap} (hO : Old H0.length H0 H) : ∃ H1 H2, (∀ (R : Type) (K : Option Addr → Heap → Option R), bitio_NewWriter H K = K (some ⟨H.length, 0, none⟩) H1) ∧ (∀ (R : Type) (K : Option Addr → Heap → Option R), R09_NewWriter H1 K = K (some ⟨H1.length, 0, none⟩) H2) ∧ Two H0.length H2 H.length none H1.length none [] ∧ Old H0.length H0 H2 := by
  have hN : H0.length ≤ H.length := by have := hO.1; omega
  obtain ⟨H1, e1, W1, o1, n1⟩ := nWriter_eq hN
  obtain ⟨H2, e2, U2, o2, n2⟩ := nUr_eq (N := H0.length) (H := H1) (by omega)
  exact ⟨H1, H2, e1, e2, ⟨W1.keep o2, U2, by omega, (fun a ha => by cases ha), (fun a ha => by cases ha), (fun a b ha => by cases ha)⟩, (hO.trans (o1.mono hN)).trans (o2.mono (by omega))⟩
/-- The bytes of both, side by side. -/
theorem two_bytes {k : Nat} (hk : 1100000 < k) {N : Nat} {H : Heap} {p p2 : Nat} {q q2 : Option Addr} {l : List Int} (T : Two N H p q p2 q2 l) (hl : l.length ≤ 100000) :
    ∃ x H1 q1 y c H2, (∀ (R : Type) (K : Option Addr → Nat → Nat → Heap → Option R), bitio_Writer_Bytes k (some ⟨p, 0, none⟩) H K = K x y y H1) ∧ (∀ (R : Type) (K : Option Addr → Nat → Nat → Heap → Option R), R09_Writer_Bytes k (some ⟨p2, 0, none⟩) H1 K = K q1 y c H2) ∧ (∀ (R : Type) (K : Bool → Option R), R09_SameBytes x y y q1 y c H2 K = K true) ∧ Two N H2 p q p2 q2 l ∧ Old H.length H H2 := by
  obtain ⟨b, pre, t, H1, z, e1, hF, ht, e2, O1, o1⟩ := bytes_eq k T.w (by omega)
  have U1 := T.u.keep o1
  obtain ⟨q1, c, H2, e3, S2, o2⟩ := uBytes_eq hk U1 T.w.b01 (by omega) e1 hF ht
  have o12 : Old H.length H H2 := o1.trans (o2.mono o1.1)
  exact ⟨_, H1, q1, _, c, H2, e2, e3, fun R K => same_self _ _ ((own_shows O1).keep o2) S2 R K, ⟨T.w.keep o12, U1.keep o2, T.a⟩, o12⟩
theorem writes_in (H : Heap) (us : List Value) (h : AllLies H [(.slc dOp, false)] us) : L_BitioWrites_c Bool 9223372036854777000 us H asB = some true := by
  obtain ⟨k, hk⟩ : ∃ k, k = 9223372036854777000 := ⟨_, rfl⟩
  rw [← hk]
  have hk1 : 1100000 < k := by omega
  clear hk
  obtain ⟨q, c, es, vs, rfl, _, _, hsh, hS, h⟩ := lies_slc h
  obtain rfl := lies_nil h
  obtain ⟨ops, hl, hfl, hwf⟩ := ops_of es hsh
  rw [hfl] at hS
  rw [← hl]
  show L_BitioWrites k q ops.length c H (fun t H => asB (.bool t) H) = some true
  obtain ⟨H1, e1, o1⟩ := few_eq (k := k) (by omega) c hS
  cases hfew : fewB ops with
  | false =>
    rw [hfew] at e1
    unfold L_BitioWrites L_BitioWrites_b
    repeat (first | (with_reducible refine (e1 _ _).trans ?_) | ((with_reducible refine go_ip (x := ?_) ?_ ?_); rotate_left 1; (first  | rfl)) | ((with_reducible refine go_bp (x := ?_) ?_ ?_); rotate_left 1; (first  | rfl)) | ((with_reducible refine go_lp (x := ?_) (l := ?_) (c := ?_) ?_ ?_); rotate_left 3; (first  | rfl)) | ((with_reducible refine go_pp (x := ?_) ?_ ?_); rotate_left 1; (first  | rfl)) | ((with_reducible refine go_i (x := ?_) ?_ ?_); rotate_left 1; (first  | rfl)) | ((with_reducible refine go_b (x := ?_) ?_ ?_); rotate_left 1; (first  | rfl)) | ((with_reducible refine go_l (x := ?_) (l := ?_) (c := ?_) ?_ ?_); rotate_left 3; (first  | rfl)) | ((with_reducible refine go_p (x := ?_) ?_ ?_); rotate_left 1; (first  | rfl)) | ((with_reducible refine go_halst rfl ?_ ?_ ?_); rfl; rfl) | (with_reducible refine go_halN rfl ?_) | ((with_reducible refine go_t ?_ ?_); (show _ = true; rfl)) | ((with_reducible refine go_f ?_ ?_); (show _ = false; rfl)) | (with_reducible refine go_ne ?_) | (with_reducible refine go_eq ?_) | (with_reducible refine go_fad ?_) | (with_reducible refine go_nil ?_))
    rfl
  | true =>
    rw [hfew] at e1
    have hfew2 := hfew
    unfold fewB at hfew2
    simp only [Bool.and_eq_true, decide_eq_true_eq] at hfew2
    obtain ⟨H2, H3, e2, e3, T3, O3⟩ := two_new o1
    obtain ⟨H4, q4, q4', l4, e4, T4, O4, L4⟩ := writes_l (k := k) (by omega) c hS hfew2.1 hfew2.2 hwf ops.length k 0 (by omega) (by omega) H3 _ _ _ _ _ T3 O3 (by simp)
    simp only [Int.natCast_zero] at e4
    obtain ⟨x5, H5, q5, y5, c5, H6, e5, e6, e7, T6, o6⟩ := two_bytes hk1 T4 L4
    obtain ⟨x8, H8, q8, y8, c8, H9, e8, e9, e10, T9, o9⟩ := two_bytes hk1 T6 L4
    unfold L_BitioWrites L_BitioWrites_b
    repeat (first | (with_reducible refine (e1 _ _).trans ?_) | (with_reducible refine (e2 _ _).trans ?_) | (with_reducible refine (e3 _ _).trans ?_) | ((with_reducible refine go_ip (x := ?_) ?_ ?_); rotate_left 1; (first  | rfl)) | ((with_reducible refine go_bp (x := ?_) ?_ ?_); rotate_left 1; (first  | rfl)) | ((with_reducible refine go_lp (x := ?_) (l := ?_) (c := ?_) ?_ ?_); rotate_left 3; (first  | rfl)) | ((with_reducible refine go_pp (x := ?_) ?_ ?_); rotate_left 1; (first  | rfl)) | ((with_reducible refine go_i (x := ?_) ?_ ?_); rotate_left 1; (first  | rfl)) | ((with_reducible refine go_b (x := ?_) ?_ ?_); rotate_left 1; (first  | rfl)) | ((with_reducible refine go_l (x := ?_) (l := ?_) (c := ?_) ?_ ?_); rotate_left 3; (first  | rfl)) | ((with_reducible refine go_p (x := ?_) ?_ ?_); rotate_left 1; (first  | rfl)) | ((with_reducible refine go_halst rfl ?_ ?_ ?_); rfl; rfl) | (with_reducible refine go_halN rfl ?_) | ((with_reducible refine go_t ?_ ?_); (show _ = true; rfl)) | ((with_reducible refine go_f ?_ ?_); (show _ = false; rfl)) | (with_reducible refine go_ne ?_) | (with_reducible refine go_eq ?_) | (with_reducible refine go_fad ?_) | (with_reducible refine go_nil ?_))
    refine (e4 _ _ _).trans ?_
    repeat (first | (with_reducible refine (e5 _ _).trans ?_) | (with_reducible refine (e6 _ _).trans ?_) | (with_reducible refine (e7 _ _).trans ?_) | (with_reducible refine (e8 _ _).trans ?_) | (with_reducible refine (e9 _ _).trans ?_) | (with_reducible refine (e10 _ _).trans ?_) | ((with_reducible refine go_ip (x := ?_) ?_ ?_); rotate_left 1; (first  | rfl)) | ((with_reducible refine go_bp (x := ?_) ?_ ?_); rotate_left 1; (first  | rfl)) | ((with_reducible refine go_lp (x := ?_) (l := ?_) (c := ?_) ?_ ?_); rotate_left 3; (first  | rfl)) | ((with_reducible refine go_pp (x := ?_) ?_ ?_); rotate_left 1; (first  | rfl)) | ((with_reducible refine go_i (x := ?_) ?_ ?_); rotate_left 1; (first  | rfl)) | ((with_reducible refine go_b (x := ?_) ?_ ?_); rotate_left 1; (first  | rfl)) | ((with_reducible refine go_l (x := ?_) (l := ?_) (c := ?_) ?_ ?_); rotate_left 3; (first  | rfl)) | ((with_reducible refine go_p (x := ?_) ?_ ?_); rotate_left 1; (first  | rfl)) | ((with_reducible refine go_halst rfl ?_ ?_ ?_); rfl; rfl) | (with_reducible refine go_halN rfl ?_) | ((with_reducible refine go_t ?_ ?_); (show _ = true; rfl)) | ((with_reducible refine go_f ?_ ?_); (show _ = false; rfl)) | (with_reducible refine go_ne ?_) | (with_reducible refine go_eq ?_) | (with_reducible refine go_fad ?_) | (with_reducible refine go_nil ?_))
    rfl
end Go.Proofs.Ytiapgcgpdndkiaa.Sh
