/- BitioStuffs: no byte 0xFF is the last one or precedes a byte of 0x80 or more; the bytes hold the bits. -/
import Derived.Test.YtiapgcgpdndkiaaBtG
import Derived.Test.YtiapgcgpdndkiaaSh10
set_option linter.unusedVariables false
set_option linter.unusedSimpArgs false
namespace Go.Proofs.Ytiapgcgpdndkiaa.Sh
open Go.Proofs.Ytiapgcgpdndkiaa.FW Go.IntWalk
theorem Wr.keep' {N : Nat} {H H' : Heap} {p : Nat} {q : Option Addr} {l : List Int} (h : Wr N H p q l) (o : Old H.length H H') : Wr N H' p q l := by
  obtain ⟨c, b, pre, t, e1, e2, e3, h1, h2, e4⟩ := h.c
  exact ⟨⟨c, b, pre, t, e1, e2, e3, h1.old o h1.lt, h2.old o (Nat.le_refl _), e4⟩, h.low, h.apt, h.b01⟩
theorem Full.stf {b pre : List Int} (h : Full b pre) : (∀ i : Nat, b[i]? = some (255 : Int) → i + 1 = b.length ∨ ∃ y : Int, b[i + 1]? = some y ∧ y < 128) ∧ pre.length ≤ 8 * b.length := by
  induction h with
  | nil => exact ⟨fun i h => by simp at h, by simp⟩
  | @snoc b pre c hF hc ih =>
    have hs8 := sz_le b
    have hv := val_lt c
    refine ⟨fun i hi => ?_, by simp only [List.length_append, List.length_cons, List.length_nil]; omega⟩
    by_cases h1 : i < b.length
    · rw [List.getElem?_append_left h1] at hi
      rcases ih.1 i hi with h2 | ⟨y, h2, h3⟩
      · refine .inr ⟨((val c : Nat) : Int), by rw [List.getElem?_append_right (by omega), h2]; simp, ?_⟩
        have h7 : sz b = 7 := by
          unfold sz
          rw [List.getLast?_eq_getElem?, show b.length - 1 = i from by omega, hi]; rfl
        rw [hc, h7] at hv
        omega
      · have := (List.getElem?_eq_some_iff.1 h2).1
        exact .inr ⟨y, by rw [List.getElem?_append_left this]; exact h2, h3⟩
    · have := (List.getElem?_eq_some_iff.1 hi).1
      simp only [List.length_append, List.length_cons, List.length_nil] at this
      exact .inl (by simp only [List.length_append, List.length_cons, List.length_nil]; omega)
theorem fnB_stf {b pre t : List Int} (h : Full b pre) (ht : t.length < sz b) : (∀ i : Nat, (fnB b t)[i]? = some (255 : Int) → ∃ y : Int, (fnB b t)[i + 1]? = some y ∧ y < 128) ∧ (pre ++ t).length ≤ 8 * (fnB b t).length ∧ ((pre ++ t).length = 0 → (fnB b t).length = 0) ∧ ∀ x ∈ fnB b t, 0 ≤ x ∧ x ≤ 255 := by
  have hs8 := sz_le b
  have hs := h.stf
  have hv := val_lt t
  have hby := h.byte
  have hlast : ∀ i : Nat, b[i]? = some (255 : Int) → i + 1 = b.length → sz b = 7 := fun i hi h2 => by
    unfold sz
    rw [List.getLast?_eq_getElem?, show b.length - 1 = i from by omega, hi]; rfl
  have hsn : ∀ (v : Int), (sz b = 7 → v < 128) → v ≠ 255 → ∀ i : Nat, (b ++ [v])[i]? = some (255 : Int) → ∃ y : Int, (b ++ [v])[i + 1]? = some y ∧ y < 128 := fun v hv hne i hi => by
    by_cases h1 : i < b.length
    · rw [List.getElem?_append_left h1] at hi
      rcases hs.1 i hi with h2 | ⟨y, h2, h3⟩
      · exact ⟨v, by rw [List.getElem?_append_right (by omega), h2]; simp, hv (hlast i hi h2)⟩
      · have := (List.getElem?_eq_some_iff.1 h2).1
        exact ⟨y, by rw [List.getElem?_append_left this]; exact h2, h3⟩
    · have h2 := (List.getElem?_eq_some_iff.1 hi).1
      simp only [List.length_append, List.length_cons, List.length_nil] at h2
      rw [List.getElem?_append_right (by omega), show i - b.length = 0 from by omega] at hi
      simp at hi; exact (hne hi).elim
  have hll : (pre ++ t).length = pre.length + t.length := List.length_append
  by_cases h0 : t.length = 0
  · by_cases h7 : sz b = 7
    · have hf : fnB b t = b ++ [0] := by unfold fnB; rw [if_pos h0, if_pos h7]
      rw [hf]
      refine ⟨hsn 0 (fun _ => by omega) (by omega), by rw [hll, show (b ++ [(0 : Int)]).length = b.length + 1 from by simp]; omega, fun hz => ?_, fun x hx => ?_⟩
      · have : b.length = 0 := by have := h.len; omega
        rw [List.length_eq_zero_iff.1 this] at h7
        simp [sz] at h7
      · rcases List.mem_append.1 hx with h1 | h1
        · exact hby x h1
        · simp only [List.mem_singleton] at h1; omega
    · have hf : fnB b t = b := by unfold fnB; rw [if_pos h0, if_neg h7]
      rw [hf]
      refine ⟨fun i hi => ?_, by omega, fun hz => by have := h.len; omega, hby⟩
      rcases hs.1 i hi with h2 | h2
      · exact (h7 (hlast i hi h2)).elim
      · exact h2
  · have hf : fnB b t = b ++ [((val t * 2 ^ (sz b - t.length) : Nat) : Int)] := by unfold fnB; rw [if_neg h0]
    have hpw : 2 ^ (sz b - t.length) = 2 * 2 ^ (sz b - t.length - 1) := by rw [← Nat.pow_succ']; congr 1; omega
    have hlt : val t * 2 ^ (sz b - t.length) < 2 ^ sz b := by
      have h1 : val t * 2 ^ (sz b - t.length) < 2 ^ t.length * 2 ^ (sz b - t.length) := Nat.mul_lt_mul_of_pos_right hv (Nat.two_pow_pos _)
      rwa [← Nat.pow_add, show t.length + (sz b - t.length) = sz b from by omega] at h1
    have h28 : 2 ^ sz b ≤ 2 ^ 8 := Nat.pow_le_pow_right (by omega) hs8
    rw [hf]
    refine ⟨hsn _ (fun h7 => by rw [h7] at hlt ⊢; omega) (fun hh => ?_), by rw [List.length_append, List.length_append]; simp only [List.length_cons, List.length_nil]; omega, fun hz => by omega, fun x hx => ?_⟩
    · have h3 : val t * 2 ^ (sz b - t.length) = 255 := by omega
      rw [hpw, ← Nat.mul_assoc, Nat.mul_comm (val t) 2, Nat.mul_assoc] at h3
      omega
    · rcases List.mem_append.1 hx with h1 | h1
      · exact hby x h1
      · simp only [List.mem_singleton] at h1; omega
theorem stuffs_l {k : Nat} (hk : 100000 < k) {ops : List Op3} (c : Nat) {q0 : Option Addr} {H0 : Heap} (hS : Shows H0 q0 (ops.flatMap opc)) (hl : ops.length ≤ 200) (hu : uns ops ≤ 70000) (hwf : ∀ o ∈ ops, wf3 o) : ∀ (m n i : Nat), m < n → ops.length = i + m → ∀ (H : Heap) (p : Nat) (q : Option Addr) (l : List Int), Wr H0.length H p q l → Old H0.length H0 H → l.length ≤ i * 64 + uns (ops.take i) →
    ∃ H' q' l', (∀ (R : Type) (KE : Option Addr → Heap → Option R), L_BitioStuffs_l0 k KE n (some ⟨p, 0, none⟩) q0 ops.length c ((ops.length : Nat) : Int) (i : Int) H = KE (some ⟨p, 0, none⟩) H') ∧ Wr H0.length H' p q' l' ∧ Old H0.length H0 H' ∧ l'.length ≤ 100000 := by
  have hlow := shows_below hS
  intro m
  induction m with
  | zero =>
    intro n i hn hi H p q l T hO hL
    obtain ⟨n, rfl⟩ : ∃ n', n = n' + 1 := ⟨n - 1, by omega⟩
    have ed : decide ((i : Int) < ((ops.length : Nat) : Int)) = false := decide_eq_false (by omega)
    have : uns (ops.take i) = uns ops := by rw [List.take_of_length_le (by omega)]
    refine ⟨H, q, l, fun R KE => ?_, T, hO, by omega⟩
    unfold L_BitioStuffs_l0 L_BitioStuffs_l0_b
    exact go_f ed rfl
  | succ m ih =>
    intro n i hn hi H p q l T hO hL
    obtain ⟨n, rfl⟩ : ∃ n', n = n' + 1 := ⟨n - 1, by omega⟩
    have ed : decide ((i : Int) < ((ops.length : Nat) : Int)) = true := decide_eq_true (by omega)
    obtain ⟨o, ho⟩ : ∃ o, ops[i]? = some o := ⟨_, List.getElem?_eq_getElem (by omega)⟩
    have hs : uns (ops.take (i + 1)) = uns (ops.take i) + un o := by rw [take_succ ho]; simp [uns]
    have hle : uns (ops.take (i + 1)) ≤ uns ops := by
      have e : uns ops = uns (ops.take (i + 1)) + uns (ops.drop (i + 1)) := by
        unfold uns; rw [← List.sum_append, ← List.map_append, List.take_append_drop]
      omega
    have hwl := wO_len o
    have hv := (wf_le (hwf o (List.mem_of_getElem? ho)).2.1).2
    obtain ⟨b, f, e0, g0, g1, g2⟩ := op_at (hS.old hO hlow) ho
    have hN : H0.length ≤ H.length := by have := hO.1; omega
    obtain ⟨H2, hH2⟩ : ∃ H2, H2 = H ++ [some ⟨[.int .i64 o.1, .int .i64 o.2.1, .int .i64 o.2.2], false, 0⟩] := ⟨_, rfl⟩
    have o2 : Old H.length H H2 := hH2 ▸ Old.app _ _
    have O2 : Owns H2 H.length [.int .i64 o.1, .int .i64 o.2.1, .int .i64 o.2.2] 0 := by rw [hH2]; exact hblk_new H _
    have m2 : ∀ i, hcell H2 H.length i = [Value.int .i64 o.1, .int .i64 o.2.1, .int .i64 o.2.2][i]? := fun i => O2.sees.cell i
    have W3 := T.keep' o2
    have hN3 : H0.length ≤ H2.length := by have := o2.1; omega
    obtain ⟨q4, H4, e4, W4, S4⟩ := write_eq hk W3 hN3 (by omega) o hv
    have w := w64 (n := (i : Int) + 1) (by omega) (by omega)
    have O5 : Old H0.length H0 H4 := (hO.trans (o2.mono hN)).trans (S4.below W3.low W3.qlow hN3)
    obtain ⟨H', q', l', e6, T6, O6, L6⟩ := ih n (i + 1) (by omega) (by omega) H4 p q4 _ W4 O5 (by rw [List.length_append]; omega)
    refine ⟨H', q', l', fun R KE => ?_, T6, O6, L6⟩
    unfold L_BitioStuffs_l0 L_BitioStuffs_l0_b
    repeat (first | (with_reducible refine (e0 _ _).trans ?_) | (with_reducible refine (e4 _ _).trans ?_) | ((with_reducible refine go_ip (x := ?_) ?_ ?_); rotate_left 1; (first | ((with_reducible refine (m2 _).trans ?_); rfl) | exact g0 | exact g1 | exact g2 | rfl)) | ((with_reducible refine go_bp (x := ?_) ?_ ?_); rotate_left 1; (first | ((with_reducible refine (m2 _).trans ?_); rfl) | exact g0 | exact g1 | exact g2 | rfl)) | ((with_reducible refine go_lp (x := ?_) (l := ?_) (c := ?_) ?_ ?_); rotate_left 3; (first | ((with_reducible refine (m2 _).trans ?_); rfl) | exact g0 | exact g1 | exact g2 | rfl)) | ((with_reducible refine go_pp (x := ?_) ?_ ?_); rotate_left 1; (first | ((with_reducible refine (m2 _).trans ?_); rfl) | exact g0 | exact g1 | exact g2 | rfl)) | ((with_reducible refine go_i (x := ?_) ?_ ?_); rotate_left 1; (first | ((with_reducible refine (m2 _).trans ?_); rfl) | exact g0 | exact g1 | exact g2 | rfl)) | ((with_reducible refine go_b (x := ?_) ?_ ?_); rotate_left 1; (first | ((with_reducible refine (m2 _).trans ?_); rfl) | exact g0 | exact g1 | exact g2 | rfl)) | ((with_reducible refine go_l (x := ?_) (l := ?_) (c := ?_) ?_ ?_); rotate_left 3; (first | ((with_reducible refine (m2 _).trans ?_); rfl) | exact g0 | exact g1 | exact g2 | rfl)) | ((with_reducible refine go_p (x := ?_) ?_ ?_); rotate_left 1; (first | ((with_reducible refine (m2 _).trans ?_); rfl) | exact g0 | exact g1 | exact g2 | rfl)) | ((with_reducible refine go_halst hH2 ?_ ?_ ?_); rfl; rfl) | (with_reducible refine go_halN hH2 ?_) | (with_reducible refine go_t ed ?_) | (with_reducible refine go_f ed ?_) | ((with_reducible refine go_t ?_ ?_); (show _ = true; rfl)) | ((with_reducible refine go_f ?_ ?_); (show _ = false; rfl)) | (with_reducible refine go_ne ?_) | (with_reducible refine go_eq ?_) | (with_reducible refine go_fad ?_) | (with_reducible refine go_nil ?_))
    try dsimp only
    rw [w]
    exact e6 _ _
theorem checks_l (k : Nat) {H : Heap} {q p : Option Addr} (c : Nat) {bs : List Int} (hS : Shows H q (byt bs)) (hl : bs.length < 1000000) (hf : ∀ i : Nat, bs[i]? = some (255 : Int) → ∃ y : Int, bs[i + 1]? = some y ∧ y < 128) : ∀ (m n i : Nat), m < n → bs.length = i + m → ∀ (R : Type) (KE : Option Addr → Option Addr → Nat → Nat → Option R) (KR : Bool → Option R),
    L_BitioStuffs_l1 k KE KR n p q bs.length c q bs.length c ((bs.length : Nat) : Int) (i : Int) H = KE p q bs.length c := by
  intro m
  induction m with
  | zero =>
    intro n i hn hi R KE KR
    obtain ⟨n, rfl⟩ : ∃ n', n = n' + 1 := ⟨n - 1, by omega⟩
    have ed : decide ((i : Int) < ((bs.length : Nat) : Int)) = false := decide_eq_false (by omega)
    unfold L_BitioStuffs_l1 L_BitioStuffs_l1_b
    exact go_f ed rfl
  | succ m ih =>
    intro n i hn hi R KE KR
    obtain ⟨n, rfl⟩ : ∃ n', n = n' + 1 := ⟨n - 1, by omega⟩
    have ed : decide ((i : Int) < ((bs.length : Nat) : Int)) = true := decide_eq_true (by omega)
    obtain ⟨x, hx⟩ : ∃ x, bs[i]? = some x := ⟨_, List.getElem?_eq_getElem (by omega)⟩
    obtain ⟨a, e1, e2⟩ := byte_at hS hx
    have w : IntKind.wrap .i64 ((i : Int) + 1) = ((i + 1 : Nat) : Int) := by rw [w64 (by omega) (by omega)]; omega
    have key : ∀ (R : Type) (KN : Option Addr → Option Addr → Nat → Nat → Option Addr → Nat → Nat → Int → Int → Option R) (KR : Bool → Option R), L_BitioStuffs_p2 k p q bs.length c q bs.length c ((bs.length : Nat) : Int) (i : Int) H KN KR = KN p q bs.length c q bs.length c ((bs.length : Nat) : Int) (i : Int) := by
      intro R KN KR
      by_cases h255 : x = 255
      · subst h255
        obtain ⟨y, hy, hy8⟩ := hf i hx
        have hi2 := (List.getElem?_eq_some_iff.1 hy).1
        obtain ⟨a2, e3, e4⟩ := byte_at hS hy
        have d1 : (((i + 1 : Nat) : Int) == ((bs.length : Nat) : Int)) = false := by
          rw [beq_eq_false_iff_ne]; omega
        have d2 : decide (y ≥ 128) = false := decide_eq_false (by omega)
        unfold L_BitioStuffs_p2 L_BitioStuffs_p2_b
        rw [w]
        repeat (first | (with_reducible refine (e1 _ _).trans ?_) | (with_reducible refine (e2 _ _).trans ?_) | (with_reducible refine (e3 _ _).trans ?_) | (with_reducible refine (e4 _ _).trans ?_) | ((with_reducible refine go_ip (x := ?_) ?_ ?_); rotate_left 1; (first  | rfl)) | ((with_reducible refine go_bp (x := ?_) ?_ ?_); rotate_left 1; (first  | rfl)) | ((with_reducible refine go_lp (x := ?_) (l := ?_) (c := ?_) ?_ ?_); rotate_left 3; (first  | rfl)) | ((with_reducible refine go_pp (x := ?_) ?_ ?_); rotate_left 1; (first  | rfl)) | ((with_reducible refine go_i (x := ?_) ?_ ?_); rotate_left 1; (first  | rfl)) | ((with_reducible refine go_b (x := ?_) ?_ ?_); rotate_left 1; (first  | rfl)) | ((with_reducible refine go_l (x := ?_) (l := ?_) (c := ?_) ?_ ?_); rotate_left 3; (first  | rfl)) | ((with_reducible refine go_p (x := ?_) ?_ ?_); rotate_left 1; (first  | rfl)) | ((with_reducible refine go_halst rfl ?_ ?_ ?_); rfl; rfl) | (with_reducible refine go_halN rfl ?_) | (with_reducible refine go_t d1 ?_) | (with_reducible refine go_f d1 ?_) | (with_reducible refine go_t d2 ?_) | (with_reducible refine go_f d2 ?_) | ((with_reducible refine go_t ?_ ?_); (show _ = true; rfl)) | ((with_reducible refine go_f ?_ ?_); (show _ = false; rfl)) | (with_reducible refine go_ne ?_) | (with_reducible refine go_eq ?_) | (with_reducible refine go_fad ?_) | (with_reducible refine go_nil ?_))
        rfl
      · have d0 : (x == 255) = false := by simpa using h255
        unfold L_BitioStuffs_p2 L_BitioStuffs_p2_b
        repeat (first | (with_reducible refine (e1 _ _).trans ?_) | (with_reducible refine (e2 _ _).trans ?_) | ((with_reducible refine go_ip (x := ?_) ?_ ?_); rotate_left 1; (first  | rfl)) | ((with_reducible refine go_bp (x := ?_) ?_ ?_); rotate_left 1; (first  | rfl)) | ((with_reducible refine go_lp (x := ?_) (l := ?_) (c := ?_) ?_ ?_); rotate_left 3; (first  | rfl)) | ((with_reducible refine go_pp (x := ?_) ?_ ?_); rotate_left 1; (first  | rfl)) | ((with_reducible refine go_i (x := ?_) ?_ ?_); rotate_left 1; (first  | rfl)) | ((with_reducible refine go_b (x := ?_) ?_ ?_); rotate_left 1; (first  | rfl)) | ((with_reducible refine go_l (x := ?_) (l := ?_) (c := ?_) ?_ ?_); rotate_left 3; (first  | rfl)) | ((with_reducible refine go_p (x := ?_) ?_ ?_); rotate_left 1; (first  | rfl)) | ((with_reducible refine go_halst rfl ?_ ?_ ?_); rfl; rfl) | (with_reducible refine go_halN rfl ?_) | (with_reducible refine go_t d0 ?_) | (with_reducible refine go_f d0 ?_) | ((with_reducible refine go_t ?_ ?_); (show _ = true; rfl)) | ((with_reducible refine go_f ?_ ?_); (show _ = false; rfl)) | (with_reducible refine go_ne ?_) | (with_reducible refine go_eq ?_) | (with_reducible refine go_fad ?_) | (with_reducible refine go_nil ?_))
        rfl
    unfold L_BitioStuffs_l1 L_BitioStuffs_l1_b
    refine go_t ed ((key _ _ _).trans ?_)
    try dsimp only
    rw [w]
    exact ih n (i + 1) (by omega) (by omega) R KE KR
theorem stuffs_in (H : Heap) (us : List Value) (h : AllLies H [(.slc dOp, false)] us) : L_BitioStuffs_c Bool 9223372036854777000 us H asB = some true := by
  obtain ⟨k, hk⟩ : ∃ k, k = 9223372036854777000 := ⟨_, rfl⟩
  rw [← hk]
  have hk1 : 1100000 < k := by omega
  clear hk
  obtain ⟨q, c, es, vs, rfl, _, _, hsh, hS, h⟩ := lies_slc h
  obtain rfl := lies_nil h
  obtain ⟨ops, hl, hfl, hwf⟩ := ops_of es hsh
  rw [hfl] at hS
  rw [← hl]
  show L_BitioStuffs k q ops.length c H (fun t H => asB (.bool t) H) = some true
  obtain ⟨H1, e1, o1⟩ := few_eq (k := k) (by omega) c hS
  cases hfew : fewB ops with
  | false =>
    rw [hfew] at e1
    unfold L_BitioStuffs L_BitioStuffs_b
    repeat (first | (with_reducible refine (e1 _ _).trans ?_) | ((with_reducible refine go_ip (x := ?_) ?_ ?_); rotate_left 1; (first  | rfl)) | ((with_reducible refine go_bp (x := ?_) ?_ ?_); rotate_left 1; (first  | rfl)) | ((with_reducible refine go_lp (x := ?_) (l := ?_) (c := ?_) ?_ ?_); rotate_left 3; (first  | rfl)) | ((with_reducible refine go_pp (x := ?_) ?_ ?_); rotate_left 1; (first  | rfl)) | ((with_reducible refine go_i (x := ?_) ?_ ?_); rotate_left 1; (first  | rfl)) | ((with_reducible refine go_b (x := ?_) ?_ ?_); rotate_left 1; (first  | rfl)) | ((with_reducible refine go_l (x := ?_) (l := ?_) (c := ?_) ?_ ?_); rotate_left 3; (first  | rfl)) | ((with_reducible refine go_p (x := ?_) ?_ ?_); rotate_left 1; (first  | rfl)) | ((with_reducible refine go_halst rfl ?_ ?_ ?_); rfl; rfl) | (with_reducible refine go_halN rfl ?_) | ((with_reducible refine go_t ?_ ?_); (show _ = true; rfl)) | ((with_reducible refine go_f ?_ ?_); (show _ = false; rfl)) | (with_reducible refine go_ne ?_) | (with_reducible refine go_eq ?_) | (with_reducible refine go_fad ?_) | (with_reducible refine go_nil ?_))
    rfl
  | true =>
    rw [hfew] at e1
    have hfew2 := hfew
    unfold fewB at hfew2
    simp only [Bool.and_eq_true, decide_eq_true_eq] at hfew2
    obtain ⟨H2, e2, W2, o2, n2⟩ := nWriter_eq (N := H.length) o1.1
    obtain ⟨H4, q4, l4, e4, T4, O4, L4⟩ := stuffs_l (k := k) (by omega) c hS hfew2.1 hfew2.2 hwf ops.length k 0 (by omega) (by omega) H2 _ _ _ W2 (o1.trans (o2.mono o1.1)) (by simp)
    simp only [Int.natCast_zero] at e4
    obtain ⟨b, pre, t, H5, z, e5, hF, ht, e6, O5, o5⟩ := bytes_eq k T4 (by omega)
    have hfn := fnB_stf hF ht
    rw [← e5] at hfn
    have W5 := T4.keep' o5
    have hlen := len_eq W5
    have hbl := hF.len
    have hfl : (fnB b t).length ≤ b.length + 1 := by
      unfold fnB
      split
      · split
        · simp
        · omega
      · simp
    have hbt : l4.length = pre.length + t.length := by rw [e5, List.length_append]
    have g := checks_l k (p := some ⟨H1.length, 0, none⟩) (fnB b t).length (own_shows O5) (by omega) hfn.1 (fnB b t).length k 0 (by omega) (by omega)
    simp only [Int.natCast_zero] at g
    have w : IntKind.wrap .i64 (8 * (((fnB b t).length : Nat) : Int)) = 8 * (((fnB b t).length : Nat) : Int) := w64 (by omega) (by omega)
    have d1 : decide (IntKind.wrap .i64 (8 * (((fnB b t).length : Nat) : Int)) ≥ ((l4.length : Nat) : Int)) = true := by rw [w]; exact decide_eq_true (by omega)
    unfold L_BitioStuffs L_BitioStuffs_b
    repeat (first | (with_reducible refine (e1 _ _).trans ?_) | (with_reducible refine (e2 _ _).trans ?_) | ((with_reducible refine go_ip (x := ?_) ?_ ?_); rotate_left 1; (first  | rfl)) | ((with_reducible refine go_bp (x := ?_) ?_ ?_); rotate_left 1; (first  | rfl)) | ((with_reducible refine go_lp (x := ?_) (l := ?_) (c := ?_) ?_ ?_); rotate_left 3; (first  | rfl)) | ((with_reducible refine go_pp (x := ?_) ?_ ?_); rotate_left 1; (first  | rfl)) | ((with_reducible refine go_i (x := ?_) ?_ ?_); rotate_left 1; (first  | rfl)) | ((with_reducible refine go_b (x := ?_) ?_ ?_); rotate_left 1; (first  | rfl)) | ((with_reducible refine go_l (x := ?_) (l := ?_) (c := ?_) ?_ ?_); rotate_left 3; (first  | rfl)) | ((with_reducible refine go_p (x := ?_) ?_ ?_); rotate_left 1; (first  | rfl)) | ((with_reducible refine go_halst rfl ?_ ?_ ?_); rfl; rfl) | (with_reducible refine go_halN rfl ?_) | ((with_reducible refine go_t ?_ ?_); (show _ = true; rfl)) | ((with_reducible refine go_f ?_ ?_); (show _ = false; rfl)) | (with_reducible refine go_ne ?_) | (with_reducible refine go_eq ?_) | (with_reducible refine go_fad ?_) | (with_reducible refine go_nil ?_))
    refine (e4 _ _).trans ((e6 _ _).trans ((g _ _ _).trans ?_))
    by_cases h0 : l4.length = 0
    · have d2 : decide (((l4.length : Nat) : Int) > 0) = false := decide_eq_false (by omega)
      have d3 : ((((fnB b t).length : Nat) : Int) == 0) = true := by rw [hfn.2.2.1 h0]; rfl
      repeat (first | (with_reducible refine (hlen _ _).trans ?_) | ((with_reducible refine go_ip (x := ?_) ?_ ?_); rotate_left 1; (first  | rfl)) | ((with_reducible refine go_bp (x := ?_) ?_ ?_); rotate_left 1; (first  | rfl)) | ((with_reducible refine go_lp (x := ?_) (l := ?_) (c := ?_) ?_ ?_); rotate_left 3; (first  | rfl)) | ((with_reducible refine go_pp (x := ?_) ?_ ?_); rotate_left 1; (first  | rfl)) | ((with_reducible refine go_i (x := ?_) ?_ ?_); rotate_left 1; (first  | rfl)) | ((with_reducible refine go_b (x := ?_) ?_ ?_); rotate_left 1; (first  | rfl)) | ((with_reducible refine go_l (x := ?_) (l := ?_) (c := ?_) ?_ ?_); rotate_left 3; (first  | rfl)) | ((with_reducible refine go_p (x := ?_) ?_ ?_); rotate_left 1; (first  | rfl)) | ((with_reducible refine go_halst rfl ?_ ?_ ?_); rfl; rfl) | (with_reducible refine go_halN rfl ?_) | (with_reducible refine go_t d1 ?_) | (with_reducible refine go_f d1 ?_) | (with_reducible refine go_t d2 ?_) | (with_reducible refine go_f d2 ?_) | (with_reducible refine go_t d3 ?_) | (with_reducible refine go_f d3 ?_) | ((with_reducible refine go_t ?_ ?_); (show _ = true; rfl)) | ((with_reducible refine go_f ?_ ?_); (show _ = false; rfl)) | (with_reducible refine go_ne ?_) | (with_reducible refine go_eq ?_) | (with_reducible refine go_fad ?_) | (with_reducible refine go_nil ?_))
      rfl
    · have d2 : decide (((l4.length : Nat) : Int) > 0) = true := decide_eq_true (by omega)
      repeat (first | (with_reducible refine (hlen _ _).trans ?_) | ((with_reducible refine go_ip (x := ?_) ?_ ?_); rotate_left 1; (first  | rfl)) | ((with_reducible refine go_bp (x := ?_) ?_ ?_); rotate_left 1; (first  | rfl)) | ((with_reducible refine go_lp (x := ?_) (l := ?_) (c := ?_) ?_ ?_); rotate_left 3; (first  | rfl)) | ((with_reducible refine go_pp (x := ?_) ?_ ?_); rotate_left 1; (first  | rfl)) | ((with_reducible refine go_i (x := ?_) ?_ ?_); rotate_left 1; (first  | rfl)) | ((with_reducible refine go_b (x := ?_) ?_ ?_); rotate_left 1; (first  | rfl)) | ((with_reducible refine go_l (x := ?_) (l := ?_) (c := ?_) ?_ ?_); rotate_left 3; (first  | rfl)) | ((with_reducible refine go_p (x := ?_) ?_ ?_); rotate_left 1; (first  | rfl)) | ((with_reducible refine go_halst rfl ?_ ?_ ?_); rfl; rfl) | (with_reducible refine go_halN rfl ?_) | (with_reducible refine go_t d1 ?_) | (with_reducible refine go_f d1 ?_) | (with_reducible refine go_t d2 ?_) | (with_reducible refine go_f d2 ?_) | ((with_reducible refine go_t ?_ ?_); (show _ = true; rfl)) | ((with_reducible refine go_f ?_ ?_); (show _ = false; rfl)) | (with_reducible refine go_ne ?_) | (with_reducible refine go_eq ?_) | (with_reducible refine go_fad ?_) | (with_reducible refine go_nil ?_))
      rfl
end Go.Proofs.Ytiapgcgpdndkiaa.Sh
