/- BitioOwns: a reader reads a copy, and a writer's bytes are one's own. -/
import Derived.Test.YtiapgcgpdndkiaaBtWrites
import Derived.Test.YtiapgcgpdndkiaaBtT
import Derived.Test.YtiapgcgpdndkiaaBtU
import Derived.Test.YtiapgcgpdndkiaaBtX
import Derived.Test.YtiapgcgpdndkiaaSh12
set_option linter.unusedVariables false
set_option linter.unusedSimpArgs false
namespace Go.Proofs.Ytiapgcgpdndkiaa.Sh
open Go.Proofs.Ytiapgcgpdndkiaa.FW Go.IntWalk
/-- A copy of bytes, appended to nothing. -/
theorem cpy_eq {H : Heap} {q : Option Addr} {bs : List Int} (hS : Shows H q (byt bs)) (hl : bs.length < 1000000) : ∃ xb sz c H1 H', H1 = H ++ [some (⟨[], false, 0⟩ : Blk)] ∧ (∀ (R : Type) (K : Option Addr → Nat → Nat → Heap → Option R), happS 1 1 H1 (some ⟨H.length, 0, none⟩) 0 0 q bs.length K = K (some ⟨xb, 0, none⟩) bs.length c H') ∧ Owns H' xb (byt bs) sz ∧ H.length ≤ xb ∧ Old H.length H H' ∧ ((c = unk ∧ sz = 1) ∨ (c = 0 ∧ sz = 0 ∧ bs = [])) := by
  obtain ⟨Ha, hHa⟩ : ∃ Ha, Ha = H ++ [some (⟨[], false, 0⟩ : Blk)] := ⟨_, rfl⟩
  have oa : Old H.length H Ha := hHa ▸ Old.app _ _
  have na : Ha.length = H.length + 1 := by rw [hHa]; simp
  have hc := (hS.keep oa).hcells
  rw [byt_len] at hc
  by_cases h0 : bs.length = 0
  · have : bs = [] := List.length_eq_zero_iff.1 h0
    subst this
    refine ⟨H.length, 0, 0, Ha, Ha, hHa, fun R K => ?_, by rw [hHa]; exact hblk_new H _, Nat.le_refl _, oa, .inr ⟨rfl, rfl, rfl⟩⟩
    have hc0 : FW.hcells Ha q 0 = some [] := by unfold FW.hcells; rfl
    show happS 1 1 Ha (some ⟨H.length, 0, none⟩) 0 0 q 0 K = _
    unfold happS happ
    rw [Nat.zero_mul, hc0]
    simp only
    rw [if_neg (by unfold unk; omega), if_pos (by omega), if_pos trivial]
    rfl
  · obtain ⟨H1, hH1⟩ : ∃ H1, H1 = Ha ++ [some (⟨byt bs, false, 1⟩ : Blk)] := ⟨_, rfl⟩
    have o1 : Old Ha.length Ha H1 := hH1 ▸ Old.app _ _
    refine ⟨Ha.length, 1, unk, Ha, H1, hHa, fun R K => ?_, by rw [hH1]; exact hblk_new Ha _, by omega, oa.trans (o1.mono oa.1), .inl ⟨rfl, rfl⟩⟩
    unfold happS happ
    rw [Nat.mul_one, hc]
    simp only
    rw [if_neg (by unfold unk; omega), if_neg (by omega), if_pos (by omega)]
    have : FW.hcells Ha (some ⟨H.length, 0, none⟩) (0 * 1) = some [] := rfl
    rw [this, hH1]
    simp
theorem byt_get {xs : List Int} {z : List Value} {i : Nat} (hi : i < xs.length) : (byt xs ++ z)[i]? = some (.int .u8 (xs.getD i 0)) := by
  rw [List.getElem?_append_left (by rw [byt_len]; exact hi)]
  simp [byt, hi]
theorem byt_set {xs : List Int} {z : List Value} {i : Nat} (hi : i < xs.length) (v : Int) : (byt xs ++ z).set i (.int .u8 v) = byt (xs.set i v) ++ z := by
  rw [List.set_append_left _ _ (by rw [byt_len]; exact hi)]
  simp [byt, List.map_set]
/-- Changed bytes. -/
theorem xor_l1 (k : Nat) {xb sz L : Nat} {z : List Value} (hL : L < 1000000) (q1 : Option Addr) (l1 c1 c : Nat) (p p2 : Option Addr) : ∀ (m n i : Nat), m < n → L = i + m → ∀ (H : Heap) (xs : List Int), xs.length = L → Owns H xb (byt xs ++ z) sz →
    ∃ H', (∀ (R : Type) (KE : Option Addr → Nat → Nat → Option Addr → Option Addr → Heap → Option R), L_BitioOwns_l1 k KE n q1 l1 c1 (some ⟨xb, 0, none⟩) L c p p2 (L : Int) (i : Int) H = KE q1 l1 c1 p p2 H') ∧ But xb H H' := by
  intro m
  induction m with
  | zero =>
    intro n i hn hi H xs hx hO
    obtain ⟨n, rfl⟩ : ∃ n', n = n' + 1 := ⟨n - 1, by omega⟩
    have ed : decide ((i : Int) < (L : Int)) = false := decide_eq_false (by omega)
    refine ⟨H, fun R KE => ?_, .refl _ _⟩
    unfold L_BitioOwns_l1 L_BitioOwns_l1_b
    exact go_f ed rfl
  | succ m ih =>
    intro n i hn hi H xs hx hO
    obtain ⟨n, rfl⟩ : ∃ n', n = n' + 1 := ⟨n - 1, by omega⟩
    have ed : decide ((i : Int) < (L : Int)) = true := decide_eq_true (by omega)
    have e0 : ∀ (R : Type) (K : Option Addr → Option R), hidx (some ⟨xb, 0, none⟩) L (i : Int) 1 K = K (some ⟨xb, i, none⟩) := fun R K => by rw [hidx_1 _ _ _ _ (by omega) (by omega), Int.toNat_natCast, Nat.zero_add]
    have m0 : hcell H xb i = some (.int .u8 (xs.getD i 0)) := by rw [hO.sees.cell]; exact byt_get (by omega)
    obtain ⟨v, hv⟩ : ∃ v, ∀ (R : Type) (K : Int → Option R), hbin .xor .u8 (xs.getD i 0) 90 K = K v := ⟨_, fun R K => rfl⟩
    obtain ⟨H1, e1, O1, b1, n1⟩ := Owns.st1 (o := i) hO (by rw [List.length_append, byt_len]; omega) (.int .u8 v)
    rw [byt_set (by omega)] at O1
    have w : IntKind.wrap .i64 ((i : Int) + 1) = ((i + 1 : Nat) : Int) := by rw [w64 (by omega) (by omega)]; omega
    obtain ⟨H2, e2, b2⟩ := ih n (i + 1) (by omega) (by omega) H1 (xs.set i v) (by rw [List.length_set]; exact hx) O1
    refine ⟨H2, fun R KE => ?_, b1.trans b2⟩
    unfold L_BitioOwns_l1 L_BitioOwns_l1_b
    repeat (first | (with_reducible refine (e0 _ _).trans ?_) | (with_reducible refine (hv _ _).trans ?_) | (with_reducible refine (e1 _ _).trans ?_) | ((with_reducible refine go_ip (x := ?_) ?_ ?_); rotate_left 1; (first  | exact m0 | rfl)) | ((with_reducible refine go_bp (x := ?_) ?_ ?_); rotate_left 1; (first  | exact m0 | rfl)) | ((with_reducible refine go_lp (x := ?_) (l := ?_) (c := ?_) ?_ ?_); rotate_left 3; (first  | exact m0 | rfl)) | ((with_reducible refine go_pp (x := ?_) ?_ ?_); rotate_left 1; (first  | exact m0 | rfl)) | ((with_reducible refine go_i (x := ?_) ?_ ?_); rotate_left 1; (first  | exact m0 | rfl)) | ((with_reducible refine go_b (x := ?_) ?_ ?_); rotate_left 1; (first  | exact m0 | rfl)) | ((with_reducible refine go_l (x := ?_) (l := ?_) (c := ?_) ?_ ?_); rotate_left 3; (first  | exact m0 | rfl)) | ((with_reducible refine go_p (x := ?_) ?_ ?_); rotate_left 1; (first  | exact m0 | rfl)) | ((with_reducible refine go_halst rfl ?_ ?_ ?_); rfl; rfl) | (with_reducible refine go_halN rfl ?_) | (with_reducible refine go_t ed ?_) | (with_reducible refine go_f ed ?_) | ((with_reducible refine go_t ?_ ?_); (show _ = true; rfl)) | ((with_reducible refine go_f ?_ ?_); (show _ = false; rfl)) | (with_reducible refine go_ne ?_) | (with_reducible refine go_eq ?_) | (with_reducible refine go_fad ?_) | (with_reducible refine go_nil ?_))
    try dsimp only
    rw [w]
    exact e2 _ _
theorem xor_l5 (k : Nat) {xb sz L : Nat} {z : List Value} (hL : L < 1000000) (c : Nat) (p p2 : Option Addr) : ∀ (m n i : Nat), m < n → L = i + m → ∀ (H : Heap) (xs : List Int), xs.length = L → Owns H xb (byt xs ++ z) sz →
    ∃ H', (∀ (R : Type) (KE : Option Addr → Option Addr → Heap → Option R), L_BitioOwns_l5 k KE n p p2 (some ⟨xb, 0, none⟩) L c (L : Int) (i : Int) H = KE p p2 H') ∧ But xb H H' := by
  intro m
  induction m with
  | zero =>
    intro n i hn hi H xs hx hO
    obtain ⟨n, rfl⟩ : ∃ n', n = n' + 1 := ⟨n - 1, by omega⟩
    have ed : decide ((i : Int) < (L : Int)) = false := decide_eq_false (by omega)
    refine ⟨H, fun R KE => ?_, .refl _ _⟩
    unfold L_BitioOwns_l5 L_BitioOwns_l5_b
    exact go_f ed rfl
  | succ m ih =>
    intro n i hn hi H xs hx hO
    obtain ⟨n, rfl⟩ : ∃ n', n = n' + 1 := ⟨n - 1, by omega⟩
    have ed : decide ((i : Int) < (L : Int)) = true := decide_eq_true (by omega)
    have e0 : ∀ (R : Type) (K : Option Addr → Option R), hidx (some ⟨xb, 0, none⟩) L (i : Int) 1 K = K (some ⟨xb, i, none⟩) := fun R K => by rw [hidx_1 _ _ _ _ (by omega) (by omega), Int.toNat_natCast, Nat.zero_add]
    have m0 : hcell H xb i = some (.int .u8 (xs.getD i 0)) := by rw [hO.sees.cell]; exact byt_get (by omega)
    obtain ⟨v, hv⟩ : ∃ v, ∀ (R : Type) (K : Int → Option R), hbin .xor .u8 (xs.getD i 0) 90 K = K v := ⟨_, fun R K => rfl⟩
    obtain ⟨H1, e1, O1, b1, n1⟩ := Owns.st1 (o := i) hO (by rw [List.length_append, byt_len]; omega) (.int .u8 v)
    rw [byt_set (by omega)] at O1
    have w : IntKind.wrap .i64 ((i : Int) + 1) = ((i + 1 : Nat) : Int) := by rw [w64 (by omega) (by omega)]; omega
    obtain ⟨H2, e2, b2⟩ := ih n (i + 1) (by omega) (by omega) H1 (xs.set i v) (by rw [List.length_set]; exact hx) O1
    refine ⟨H2, fun R KE => ?_, b1.trans b2⟩
    unfold L_BitioOwns_l5 L_BitioOwns_l5_b
    repeat (first | (with_reducible refine (e0 _ _).trans ?_) | (with_reducible refine (hv _ _).trans ?_) | (with_reducible refine (e1 _ _).trans ?_) | ((with_reducible refine go_ip (x := ?_) ?_ ?_); rotate_left 1; (first  | exact m0 | rfl)) | ((with_reducible refine go_bp (x := ?_) ?_ ?_); rotate_left 1; (first  | exact m0 | rfl)) | ((with_reducible refine go_lp (x := ?_) (l := ?_) (c := ?_) ?_ ?_); rotate_left 3; (first  | exact m0 | rfl)) | ((with_reducible refine go_pp (x := ?_) ?_ ?_); rotate_left 1; (first  | exact m0 | rfl)) | ((with_reducible refine go_i (x := ?_) ?_ ?_); rotate_left 1; (first  | exact m0 | rfl)) | ((with_reducible refine go_b (x := ?_) ?_ ?_); rotate_left 1; (first  | exact m0 | rfl)) | ((with_reducible refine go_l (x := ?_) (l := ?_) (c := ?_) ?_ ?_); rotate_left 3; (first  | exact m0 | rfl)) | ((with_reducible refine go_p (x := ?_) ?_ ?_); rotate_left 1; (first  | exact m0 | rfl)) | ((with_reducible refine go_halst rfl ?_ ?_ ?_); rfl; rfl) | (with_reducible refine go_halN rfl ?_) | (with_reducible refine go_t ed ?_) | (with_reducible refine go_f ed ?_) | ((with_reducible refine go_t ?_ ?_); (show _ = true; rfl)) | ((with_reducible refine go_f ?_ ?_); (show _ = false; rfl)) | (with_reducible refine go_ne ?_) | (with_reducible refine go_eq ?_) | (with_reducible refine go_fad ?_) | (with_reducible refine go_nil ?_))
    try dsimp only
    rw [w]
    exact e2 _ _
/-- Sixteen bits of both readers. -/
theorem gets_l (k : Nat) (q1 : Option Addr) (l1 c1 : Nat) {p p2 : Nat} {q q2 : Option Addr} {bs : List Int} (hne : p ≠ p2) (hq : ∀ a, q = some a → a.block ≠ p2) (hq2 : ∀ a, q2 = some a → a.block ≠ p) {N : Nat} (hp : N ≤ p) (hp2 : N ≤ p2) : ∀ (m n i : Nat), m < n → 16 = i + m → ∀ (H : Heap) (s : Nat × Nat), Rd H p q bs s → Rd H p2 q2 bs s → N ≤ H.length →
    ∃ H', (∀ (R : Type) (KE : Option Addr → Nat → Nat → Heap → Option R) (KR : Bool → Heap → Option R), L_BitioOwns_l2 k KE KR n q1 l1 c1 (some ⟨p, 0, none⟩) (some ⟨p2, 0, none⟩) (i : Int) H = KE q1 l1 c1 H') ∧ Old N H H' := by
  intro m
  induction m with
  | zero =>
    intro n i hn hi H s r r2 hN
    obtain ⟨n, rfl⟩ : ∃ n', n = n' + 1 := ⟨n - 1, by omega⟩
    have ed : decide ((i : Int) < 16) = false := decide_eq_false (by omega)
    refine ⟨H, fun R KE KR => ?_, .refl _ _⟩
    unfold L_BitioOwns_l2 L_BitioOwns_l2_b
    exact go_f ed rfl
  | succ m ih =>
    intro n i hn hi H s r r2 hN
    obtain ⟨n, rfl⟩ : ∃ n', n = n' + 1 := ⟨n - 1, by omega⟩
    have ed : decide ((i : Int) < 16) = true := decide_eq_true (by omega)
    obtain ⟨H1, e1, R1, b1⟩ := pGet_eq k r
    obtain ⟨H2, e2, R2, b2⟩ := uGet_eq k (r2.but b1 hne.symm hq2)
    have w : IntKind.wrap .i64 ((i : Int) + 1) = ((i + 1 : Nat) : Int) := by rw [w64 (by omega) (by omega)]; omega
    obtain ⟨H3, e3, o3⟩ := ih n (i + 1) (by omega) (by omega) H2 _ (R1.but b2 hne hq) R2 (by have := b1.1; have := b2.1; omega)
    refine ⟨H3, fun R KE KR => ?_, ((b1.old hp hN).trans (b2.old hp2 (by have := b1.1; omega))).trans o3⟩
    unfold L_BitioOwns_l2 L_BitioOwns_l2_b L_BitioOwns_p3 L_BitioOwns_p3_b
    repeat (first | (with_reducible refine (e1 _ _).trans ?_) | (with_reducible refine (e2 _ _).trans ?_) | ((with_reducible refine go_ip (x := ?_) ?_ ?_); rotate_left 1; (first  | rfl)) | ((with_reducible refine go_bp (x := ?_) ?_ ?_); rotate_left 1; (first  | rfl)) | ((with_reducible refine go_lp (x := ?_) (l := ?_) (c := ?_) ?_ ?_); rotate_left 3; (first  | rfl)) | ((with_reducible refine go_pp (x := ?_) ?_ ?_); rotate_left 1; (first  | rfl)) | ((with_reducible refine go_i (x := ?_) ?_ ?_); rotate_left 1; (first  | rfl)) | ((with_reducible refine go_b (x := ?_) ?_ ?_); rotate_left 1; (first  | rfl)) | ((with_reducible refine go_l (x := ?_) (l := ?_) (c := ?_) ?_ ?_); rotate_left 3; (first  | rfl)) | ((with_reducible refine go_p (x := ?_) ?_ ?_); rotate_left 1; (first  | rfl)) | ((with_reducible refine go_halst rfl ?_ ?_ ?_); rfl; rfl) | (with_reducible refine go_halN rfl ?_) | (with_reducible refine go_t ed ?_) | (with_reducible refine go_f ed ?_) | ((with_reducible refine go_t ?_ ?_); (show _ = true; rfl)) | ((with_reducible refine go_f ?_ ?_); (show _ = false; rfl)) | (with_reducible refine go_ne ?_) | (with_reducible refine go_eq ?_) | (with_reducible refine go_fad ?_) | (with_reducible refine go_nil ?_))
    try dsimp only
    rw [w]
    exact e3 _ _ _
theorem owns_l {k : Nat} (hk : 100000 < k) {ops : List Op3} (c : Nat) {q0 : Option Addr} {H0 : Heap} (hS : Shows H0 q0 (ops.flatMap opc)) (hl : ops.length ≤ 200) (hu : uns ops ≤ 70000) (hwf : ∀ o ∈ ops, wf3 o) : ∀ (m n i : Nat), m < n → ops.length = i + m → ∀ (H : Heap) (p : Nat) (q : Option Addr) (p2 : Nat) (q2 : Option Addr) (l : List Int), Two H0.length H p q p2 q2 l → Old H0.length H0 H → l.length ≤ i * 64 + uns (ops.take i) →
    ∃ H' q' q2' l', (∀ (R : Type) (KE : Option Addr → Option Addr → Heap → Option R), L_BitioOwns_l4 k KE n (some ⟨p, 0, none⟩) (some ⟨p2, 0, none⟩) q0 ops.length c ((ops.length : Nat) : Int) (i : Int) H = KE (some ⟨p, 0, none⟩) (some ⟨p2, 0, none⟩) H') ∧ Two H0.length H' p q' p2 q2' l' ∧ Old H0.length H0 H' ∧ l'.length ≤ 100000 := by
  have hlow := shows_below hS
  intro m
  induction m with
  | zero =>
    intro n i hn hi H p q p2 q2 l T hO hL
    obtain ⟨n, rfl⟩ : ∃ n', n = n' + 1 := ⟨n - 1, by omega⟩
    have ed : decide ((i : Int) < ((ops.length : Nat) : Int)) = false := decide_eq_false (by omega)
    have : uns (ops.take i) = uns ops := by rw [List.take_of_length_le (by omega)]
    refine ⟨H, q, q2, l, fun R KE => ?_, T, hO, by omega⟩
    unfold L_BitioOwns_l4 L_BitioOwns_l4_b
    exact go_f ed rfl
  | succ m ih =>
    intro n i hn hi H p q p2 q2 l T hO hL
    obtain ⟨n, rfl⟩ : ∃ n', n = n' + 1 := ⟨n - 1, by omega⟩
    have ed : decide ((i : Int) < ((ops.length : Nat) : Int)) = true := decide_eq_true (by omega)
    obtain ⟨o, ho⟩ : ∃ o, ops[i]? = some o := ⟨_, List.getElem?_eq_getElem (by omega)⟩
    have hs : uns (ops.take (i + 1)) = uns (ops.take i) + un o := by rw [take_succ ho]; simp [uns]
    have hle : uns (ops.take (i + 1)) ≤ uns ops := by
      have e : uns ops = uns (ops.take (i + 1)) + uns (ops.drop (i + 1)) := by
        unfold uns; rw [← List.sum_append, ← List.map_append, List.take_append_drop]
      omega
    have hwl := wO_len o
    have hv := (wf_le (hwf o (List.mem_of_getElem? ho)).2.1).2
    obtain ⟨b, f, e0, g0, g1, g2⟩ := op_at (hS.old hO hlow) ho
    have hN : H0.length ≤ H.length := by have := hO.1; omega
    obtain ⟨H2, hH2⟩ : ∃ H2, H2 = H ++ [some ⟨[.int .i64 o.1, .int .i64 o.2.1, .int .i64 o.2.2], false, 0⟩] := ⟨_, rfl⟩
    have o2 : Old H.length H H2 := hH2 ▸ Old.app _ _
    have O2 : Owns H2 H.length [.int .i64 o.1, .int .i64 o.2.1, .int .i64 o.2.2] 0 := by rw [hH2]; exact hblk_new H _
    have m2 : ∀ i, hcell H2 H.length i = [Value.int .i64 o.1, .int .i64 o.2.1, .int .i64 o.2.2][i]? := fun i => O2.sees.cell i
    have W3 := T.w.keep o2
    have U3 := T.u.keep o2
    have hN3 : H0.length ≤ H2.length := by have := o2.1; omega
    obtain ⟨q4, H4, e4, W4, S4⟩ := write_eq hk W3 hN3 (by omega) o hv
    have U4 := U3.stp S4 T.a
    have A4 := T.a.step S4 U3.lt U3.qlt
    have hqlt := T.w.qlt
    have O4 := Owns.stp S4 O2 (by have := T.w.lt; omega) (fun a ha => by have := hqlt a ha; omega)
    have m4 : ∀ i, hcell H4 H.length i = [Value.int .i64 o.1, .int .i64 o.2.1, .int .i64 o.2.2][i]? := fun i => O4.sees.cell i
    obtain ⟨q5, H5, e5, U5, S5⟩ := writeRef_eq hk U4 (by have := S4.len; omega) (by omega) o hv
    have W5 := W4.stp S5 A4.symm
    have A5 := (A4.symm.step S5 W4.lt W4.qlt).symm
    have w := w64 (n := (i : Int) + 1) (by omega) (by omega)
    have O5 : Old H0.length H0 H5 := ((hO.trans (o2.mono hN)).trans (S4.below W3.low W3.qlow hN3)).trans (S5.below U4.low U4.qlow (by have := S4.len; omega))
    obtain ⟨H', q', q2', l', e6, T6, O6, L6⟩ := ih n (i + 1) (by omega) (by omega) H5 p q4 p2 q5 _ ⟨W5, U5, A5⟩ O5 (by rw [List.length_append]; omega)
    refine ⟨H', q', q2', l', fun R KE => ?_, T6, O6, L6⟩
    unfold L_BitioOwns_l4 L_BitioOwns_l4_b
    repeat (first | (with_reducible refine (e0 _ _).trans ?_) | (with_reducible refine (e4 _ _).trans ?_) | (with_reducible refine (e5 _ _).trans ?_) | ((with_reducible refine go_ip (x := ?_) ?_ ?_); rotate_left 1; (first | ((with_reducible refine (m2 _).trans ?_); rfl) | ((with_reducible refine (m4 _).trans ?_); rfl) | exact g0 | exact g1 | exact g2 | rfl)) | ((with_reducible refine go_bp (x := ?_) ?_ ?_); rotate_left 1; (first | ((with_reducible refine (m2 _).trans ?_); rfl) | ((with_reducible refine (m4 _).trans ?_); rfl) | exact g0 | exact g1 | exact g2 | rfl)) | ((with_reducible refine go_lp (x := ?_) (l := ?_) (c := ?_) ?_ ?_); rotate_left 3; (first | ((with_reducible refine (m2 _).trans ?_); rfl) | ((with_reducible refine (m4 _).trans ?_); rfl) | exact g0 | exact g1 | exact g2 | rfl)) | ((with_reducible refine go_pp (x := ?_) ?_ ?_); rotate_left 1; (first | ((with_reducible refine (m2 _).trans ?_); rfl) | ((with_reducible refine (m4 _).trans ?_); rfl) | exact g0 | exact g1 | exact g2 | rfl)) | ((with_reducible refine go_i (x := ?_) ?_ ?_); rotate_left 1; (first | ((with_reducible refine (m2 _).trans ?_); rfl) | ((with_reducible refine (m4 _).trans ?_); rfl) | exact g0 | exact g1 | exact g2 | rfl)) | ((with_reducible refine go_b (x := ?_) ?_ ?_); rotate_left 1; (first | ((with_reducible refine (m2 _).trans ?_); rfl) | ((with_reducible refine (m4 _).trans ?_); rfl) | exact g0 | exact g1 | exact g2 | rfl)) | ((with_reducible refine go_l (x := ?_) (l := ?_) (c := ?_) ?_ ?_); rotate_left 3; (first | ((with_reducible refine (m2 _).trans ?_); rfl) | ((with_reducible refine (m4 _).trans ?_); rfl) | exact g0 | exact g1 | exact g2 | rfl)) | ((with_reducible refine go_p (x := ?_) ?_ ?_); rotate_left 1; (first | ((with_reducible refine (m2 _).trans ?_); rfl) | ((with_reducible refine (m4 _).trans ?_); rfl) | exact g0 | exact g1 | exact g2 | rfl)) | ((with_reducible refine go_halst hH2 ?_ ?_ ?_); rfl; rfl) | (with_reducible refine go_halN hH2 ?_) | (with_reducible refine go_t ed ?_) | (with_reducible refine go_f ed ?_) | ((with_reducible refine go_t ?_ ?_); (show _ = true; rfl)) | ((with_reducible refine go_f ?_ ?_); (show _ = false; rfl)) | (with_reducible refine go_ne ?_) | (with_reducible refine go_eq ?_) | (with_reducible refine go_fad ?_) | (with_reducible refine go_nil ?_))
    try dsimp only
    rw [w]
    exact e6 _ _
theorem owns_in (H : Heap) (us : List Value) (h : AllLies H [(.slc (.int .u8), false), (.slc dOp, false)] us) : L_BitioOwns_c Bool 9223372036854777000 us H asB = some true := by
  obtain ⟨k, hk⟩ : ∃ k, k = 9223372036854777000 := ⟨_, rfl⟩
  rw [← hk]
  have hk1 : 1100000 < k := by omega
  clear hk
  obtain ⟨qb, cb, eb, vs, rfl, _, _, hsb, hSb, h2⟩ := lies_slc h
  obtain ⟨q, c, es, vs2, rfl, _, _, hsh, hS, h3⟩ := lies_slc h2
  obtain rfl := lies_nil h3
  obtain ⟨ops, hl, hfl, hwf⟩ := ops_of es hsh
  obtain ⟨bs, hbl, hbf, hbw⟩ := bytes_of eb hsb
  rw [hfl] at hS
  rw [hbf] at hSb
  rw [← hl, ← hbl]
  show L_BitioOwns k qb bs.length cb q ops.length c H (fun t H => asB (.bool t) H) = some true
  by_cases c1 : bs.length > 500
  · have d1 : decide (((bs.length : Nat) : Int) > 500) = true := decide_eq_true (by omega)
    unfold L_BitioOwns L_BitioOwns_b L_BitioOwns_p0 L_BitioOwns_p0_b
    repeat (first | ((with_reducible refine go_ip (x := ?_) ?_ ?_); rotate_left 1; (first  | rfl)) | ((with_reducible refine go_bp (x := ?_) ?_ ?_); rotate_left 1; (first  | rfl)) | ((with_reducible refine go_lp (x := ?_) (l := ?_) (c := ?_) ?_ ?_); rotate_left 3; (first  | rfl)) | ((with_reducible refine go_pp (x := ?_) ?_ ?_); rotate_left 1; (first  | rfl)) | ((with_reducible refine go_i (x := ?_) ?_ ?_); rotate_left 1; (first  | rfl)) | ((with_reducible refine go_b (x := ?_) ?_ ?_); rotate_left 1; (first  | rfl)) | ((with_reducible refine go_l (x := ?_) (l := ?_) (c := ?_) ?_ ?_); rotate_left 3; (first  | rfl)) | ((with_reducible refine go_p (x := ?_) ?_ ?_); rotate_left 1; (first  | rfl)) | ((with_reducible refine go_halst rfl ?_ ?_ ?_); rfl; rfl) | (with_reducible refine go_halN rfl ?_) | (with_reducible refine go_t d1 ?_) | (with_reducible refine go_f d1 ?_) | ((with_reducible refine go_t ?_ ?_); (show _ = true; rfl)) | ((with_reducible refine go_f ?_ ?_); (show _ = false; rfl)) | (with_reducible refine go_ne ?_) | (with_reducible refine go_eq ?_) | (with_reducible refine go_fad ?_) | (with_reducible refine go_nil ?_))
    rfl
  have d1 : decide (((bs.length : Nat) : Int) > 500) = false := decide_eq_false (by omega)
  obtain ⟨H1, e1, o1⟩ := few_eq (k := k) (by omega) c hS
  cases hfew : fewB ops with
  | false =>
    rw [hfew] at e1
    unfold L_BitioOwns L_BitioOwns_b L_BitioOwns_p0 L_BitioOwns_p0_b
    repeat (first | (with_reducible refine (e1 _ _).trans ?_) | ((with_reducible refine go_ip (x := ?_) ?_ ?_); rotate_left 1; (first  | rfl)) | ((with_reducible refine go_bp (x := ?_) ?_ ?_); rotate_left 1; (first  | rfl)) | ((with_reducible refine go_lp (x := ?_) (l := ?_) (c := ?_) ?_ ?_); rotate_left 3; (first  | rfl)) | ((with_reducible refine go_pp (x := ?_) ?_ ?_); rotate_left 1; (first  | rfl)) | ((with_reducible refine go_i (x := ?_) ?_ ?_); rotate_left 1; (first  | rfl)) | ((with_reducible refine go_b (x := ?_) ?_ ?_); rotate_left 1; (first  | rfl)) | ((with_reducible refine go_l (x := ?_) (l := ?_) (c := ?_) ?_ ?_); rotate_left 3; (first  | rfl)) | ((with_reducible refine go_p (x := ?_) ?_ ?_); rotate_left 1; (first  | rfl)) | ((with_reducible refine go_halst rfl ?_ ?_ ?_); rfl; rfl) | (with_reducible refine go_halN rfl ?_) | (with_reducible refine go_t d1 ?_) | (with_reducible refine go_f d1 ?_) | ((with_reducible refine go_t ?_ ?_); (show _ = true; rfl)) | ((with_reducible refine go_f ?_ ?_); (show _ = false; rfl)) | (with_reducible refine go_ne ?_) | (with_reducible refine go_eq ?_) | (with_reducible refine go_fad ?_) | (with_reducible refine go_nil ?_))
    rfl
  | true =>
  rw [hfew] at e1
  have hfew2 := hfew
  unfold fewB at hfew2
  simp only [Bool.and_eq_true, decide_eq_true_eq] at hfew2
  have hB : Byts bs := ⟨hbw, by omega⟩
  have hS1 := hSb.keep o1
  obtain ⟨xb, sz, cc, Hx, H2, hHx, e2, O2, hxb, o2, _⟩ := cpy_eq hS1 (by omega)
  obtain ⟨p, q1, H3, e3, R3, o3, hp, hq⟩ := nReader_eq cc O2.sees.shows hB
  have hS3 := (hS1.keep o2).keep o3
  obtain ⟨p2, q2, H4, e4, R4, o4, hp2, hq2⟩ := uReader_eq cb hS3 hB
  have hxl := O2.lt
  have hpl := R3.lt
  have n23 := o3.1
  have n34 := o4.1
  have O4 : Owns H4 xb (byt bs ++ []) sz := by rw [List.append_nil]; exact (O2.old o3 hxl).old o4 (by omega)
  obtain ⟨H5, e5, b5⟩ := xor_l1 k (by omega) q ops.length c cc (some ⟨p, 0, none⟩) (some ⟨p2, 0, none⟩) bs.length k 0 (by omega) (by omega) H4 bs rfl O4
  simp only [Int.natCast_zero] at e5
  have R5 : Rd H5 p q1 bs (0, 0) := (R3.keep o4).but b5 (by omega) (fun a ha => by have := hq a ha; omega)
  have U5 : Rd H5 p2 q2 bs (0, 0) := R4.but b5 (by omega) (fun a ha => by have := hq2 a ha; omega)
  have n1 := o1.1
  have n2 := o2.1
  obtain ⟨H6, e6, o6⟩ := gets_l k q ops.length c (by omega) (fun a ha => by have := hq a ha; omega) (fun a ha => by have := hq2 a ha; omega) (N := H.length) (by omega) (by omega) 16 k 0 (by omega) (by omega) H5 (0, 0) R5 U5 (by have := b5.1; omega)
  simp only [Int.natCast_zero] at e6
  have oH : Old H.length H H6 := ((((o1.trans (o2.mono n1)).trans (o3.mono (by omega))).trans (o4.mono (by omega))).trans (b5.old (by omega) (by omega))).trans o6
  obtain ⟨H7, H8, e7, e8, T8, O8⟩ := two_new oH
  obtain ⟨H9, q9, q9', l9, e9, T9, O9, L9⟩ := owns_l (k := k) (by omega) c hS hfew2.1 hfew2.2 hwf ops.length k 0 (by omega) (by omega) H8 _ _ _ _ _ T8 O8 (by simp)
  simp only [Int.natCast_zero] at e9
  obtain ⟨b, pre, t, H10, z, e10, hF, ht, e11, O10, o10⟩ := bytes_eq k T9.w (by omega)
  have hbl2 := hF.len
  have hfl2 : (fnB b t).length ≤ b.length + 1 := by
    unfold fnB
    split
    · split
      · simp
      · omega
    · simp
  have hbt : l9.length = pre.length + t.length := by rw [e10, List.length_append]
  obtain ⟨H11, e12, b11⟩ := xor_l5 k (by omega) (fnB b t).length (some ⟨H6.length, 0, none⟩) (some ⟨H7.length, 0, none⟩) (fnB b t).length k 0 (by omega) (by omega) H10 (fnB b t) rfl O10
  simp only [Int.natCast_zero] at e12
  have o11 : Old H9.length H9 H11 := o10.trans (b11.old (Nat.le_refl _) o10.1)
  have T11 : Two H.length H11 H6.length q9 H7.length q9' l9 := ⟨T9.w.keep o11, T9.u.keep o11, T9.a⟩
  obtain ⟨x13, H13, q13, y13, c13, H14, e13, e14, e15, T14, o14⟩ := two_bytes hk1 T11 L9
  have g1 := len_eq T14.w
  have g2 := uLen_eq k T14.u
  unfold L_BitioOwns L_BitioOwns_b L_BitioOwns_p0 L_BitioOwns_p0_b
  repeat (first | (with_reducible refine (e1 _ _).trans ?_) | ((with_reducible refine go_ip (x := ?_) ?_ ?_); rotate_left 1; (first  | rfl)) | ((with_reducible refine go_bp (x := ?_) ?_ ?_); rotate_left 1; (first  | rfl)) | ((with_reducible refine go_lp (x := ?_) (l := ?_) (c := ?_) ?_ ?_); rotate_left 3; (first  | rfl)) | ((with_reducible refine go_pp (x := ?_) ?_ ?_); rotate_left 1; (first  | rfl)) | ((with_reducible refine go_i (x := ?_) ?_ ?_); rotate_left 1; (first  | rfl)) | ((with_reducible refine go_b (x := ?_) ?_ ?_); rotate_left 1; (first  | rfl)) | ((with_reducible refine go_l (x := ?_) (l := ?_) (c := ?_) ?_ ?_); rotate_left 3; (first  | rfl)) | ((with_reducible refine go_p (x := ?_) ?_ ?_); rotate_left 1; (first  | rfl)) | ((with_reducible refine go_halst hHx ?_ ?_ ?_); rfl; rfl) | (with_reducible refine go_halN hHx ?_) | (with_reducible refine go_t d1 ?_) | (with_reducible refine go_f d1 ?_) | ((with_reducible refine go_t ?_ ?_); (show _ = true; rfl)) | ((with_reducible refine go_f ?_ ?_); (show _ = false; rfl)) | (with_reducible refine go_ne ?_) | (with_reducible refine go_eq ?_) | (with_reducible refine go_fad ?_) | (with_reducible refine go_nil ?_))
  repeat (first | (with_reducible refine (e2 _ _).trans ?_) | (with_reducible refine (e3 _ _).trans ?_) | (with_reducible refine (e4 _ _).trans ?_) | ((with_reducible refine go_ip (x := ?_) ?_ ?_); rotate_left 1; (first  | rfl)) | ((with_reducible refine go_bp (x := ?_) ?_ ?_); rotate_left 1; (first  | rfl)) | ((with_reducible refine go_lp (x := ?_) (l := ?_) (c := ?_) ?_ ?_); rotate_left 3; (first  | rfl)) | ((with_reducible refine go_pp (x := ?_) ?_ ?_); rotate_left 1; (first  | rfl)) | ((with_reducible refine go_i (x := ?_) ?_ ?_); rotate_left 1; (first  | rfl)) | ((with_reducible refine go_b (x := ?_) ?_ ?_); rotate_left 1; (first  | rfl)) | ((with_reducible refine go_l (x := ?_) (l := ?_) (c := ?_) ?_ ?_); rotate_left 3; (first  | rfl)) | ((with_reducible refine go_p (x := ?_) ?_ ?_); rotate_left 1; (first  | rfl)) | ((with_reducible refine go_halst hHx ?_ ?_ ?_); rfl; rfl) | (with_reducible refine go_halN hHx ?_) | ((with_reducible refine go_t ?_ ?_); (show _ = true; rfl)) | ((with_reducible refine go_f ?_ ?_); (show _ = false; rfl)) | (with_reducible refine go_ne ?_) | (with_reducible refine go_eq ?_) | (with_reducible refine go_fad ?_) | (with_reducible refine go_nil ?_))
  refine (e5 _ _).trans ((e6 _ _ _).trans ?_)
  repeat (first | (with_reducible refine (e7 _ _).trans ?_) | (with_reducible refine (e8 _ _).trans ?_) | ((with_reducible refine go_ip (x := ?_) ?_ ?_); rotate_left 1; (first  | rfl)) | ((with_reducible refine go_bp (x := ?_) ?_ ?_); rotate_left 1; (first  | rfl)) | ((with_reducible refine go_lp (x := ?_) (l := ?_) (c := ?_) ?_ ?_); rotate_left 3; (first  | rfl)) | ((with_reducible refine go_pp (x := ?_) ?_ ?_); rotate_left 1; (first  | rfl)) | ((with_reducible refine go_i (x := ?_) ?_ ?_); rotate_left 1; (first  | rfl)) | ((with_reducible refine go_b (x := ?_) ?_ ?_); rotate_left 1; (first  | rfl)) | ((with_reducible refine go_l (x := ?_) (l := ?_) (c := ?_) ?_ ?_); rotate_left 3; (first  | rfl)) | ((with_reducible refine go_p (x := ?_) ?_ ?_); rotate_left 1; (first  | rfl)) | ((with_reducible refine go_halst rfl ?_ ?_ ?_); rfl; rfl) | (with_reducible refine go_halN rfl ?_) | ((with_reducible refine go_t ?_ ?_); (show _ = true; rfl)) | ((with_reducible refine go_f ?_ ?_); (show _ = false; rfl)) | (with_reducible refine go_ne ?_) | (with_reducible refine go_eq ?_) | (with_reducible refine go_fad ?_) | (with_reducible refine go_nil ?_))
  refine (e9 _ _).trans ((e11 _ _).trans ((e12 _ _).trans ?_))
  repeat (first | (with_reducible refine (e13 _ _).trans ?_) | (with_reducible refine (e14 _ _).trans ?_) | (with_reducible refine (e15 _ _).trans ?_) | (with_reducible refine (g1 _ _).trans ?_) | (with_reducible refine (g2 _ _).trans ?_) | ((with_reducible refine go_ip (x := ?_) ?_ ?_); rotate_left 1; (first  | rfl)) | ((with_reducible refine go_bp (x := ?_) ?_ ?_); rotate_left 1; (first  | rfl)) | ((with_reducible refine go_lp (x := ?_) (l := ?_) (c := ?_) ?_ ?_); rotate_left 3; (first  | rfl)) | ((with_reducible refine go_pp (x := ?_) ?_ ?_); rotate_left 1; (first  | rfl)) | ((with_reducible refine go_i (x := ?_) ?_ ?_); rotate_left 1; (first  | rfl)) | ((with_reducible refine go_b (x := ?_) ?_ ?_); rotate_left 1; (first  | rfl)) | ((with_reducible refine go_l (x := ?_) (l := ?_) (c := ?_) ?_ ?_); rotate_left 3; (first  | rfl)) | ((with_reducible refine go_p (x := ?_) ?_ ?_); rotate_left 1; (first  | rfl)) | ((with_reducible refine go_halst rfl ?_ ?_ ?_); rfl; rfl) | (with_reducible refine go_halN rfl ?_) | ((with_reducible refine go_t ?_ ?_); (show _ = true; rfl)) | ((with_reducible refine go_f ?_ ?_); (show _ = false; rfl)) | (with_reducible refine go_ne ?_) | (with_reducible refine go_eq ?_) | (with_reducible refine go_fad ?_) | (with_reducible refine go_nil ?_))
  rfl
end Go.Proofs.Ytiapgcgpdndkiaa.Sh
