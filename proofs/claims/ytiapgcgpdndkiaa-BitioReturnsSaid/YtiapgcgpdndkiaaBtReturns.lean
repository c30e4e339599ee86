/- BitioReturns: what a writer wrote is read back. -/
import Derived.Test.YtiapgcgpdndkiaaBtY
import Derived.Test.YtiapgcgpdndkiaaBtT
import Derived.Test.YtiapgcgpdndkiaaBtX
import Derived.Test.YtiapgcgpdndkiaaSh14
set_option linter.unusedVariables false
set_option linter.unusedSimpArgs false
namespace Go.Proofs.Ytiapgcgpdndkiaa.Sh
open Go.Proofs.Ytiapgcgpdndkiaa.FW Go.IntWalk
theorem Wr.keep3 {N : Nat} {H H' : Heap} {p : Nat} {q : Option Addr} {l : List Int} (h : Wr N H p q l) (o : Old H.length H H') : Wr N H' p q l := by
  obtain ⟨c, b, pre, t, e1, e2, e3, h1, h2, e4⟩ := h.c
  exact ⟨⟨c, b, pre, t, e1, e2, e3, h1.old o h1.lt, h2.old o (Nat.le_refl _), e4⟩, h.low, h.apt, h.b01⟩
/-- One more call behind a list of calls. -/
theorem app3 {N : Nat} {H : Heap} {q : Option Addr} {l c : Nat} {cs vs : List Value} (h : Bld N 3 H q l c cs) (hN : N ≤ H.length) (hv : vs.length = 3) (hl : l ≤ 200) :
    ∃ H', (∀ (R : Type) (K : Option Addr → Nat → Nat → Heap → Option R), happS 3 24 (H ++ [some ⟨vs, false, 0⟩]) q l c (some ⟨H.length, 0, none⟩) 1 K = K (some ⟨H.length + 1, 0, none⟩) (l + 1) unk H') ∧ Bld N 3 H' (some ⟨H.length + 1, 0, none⟩) (l + 1) unk (cs ++ vs) ∧ H'.length = H.length + 2 ∧ ∀ i, i < H.length → (∀ a, q = some a → a.block ≠ i) → hblk H' i = hblk H i := by
  have hp : Shows (H ++ [some (⟨vs, false, 0⟩ : Blk)]) (some ⟨H.length, 0, none⟩) vs := Sees.shows ⟨_, hblk_new H _, rfl⟩
  have hc := hp.hcells
  rw [hv] at hc
  have hL : (H ++ [some (⟨vs, false, 0⟩ : Blk)]).length = H.length + 1 := by simp
  rcases h with ⟨rfl, rfl, rfl, rfl⟩ | ⟨b, rfl, rfl, h3, h4, h5⟩
  · refine ⟨H ++ [some ⟨vs, false, 0⟩] ++ [some ⟨vs, false, 3⟩], fun R K => ?_, .inr ⟨H.length + 1, rfl, rfl, by omega, ?_, by simp [hv]⟩, by simp, fun i hi _ => by rw [List.append_assoc]; exact app_old hi⟩
    · unfold happS happ
      rw [show 1 * 3 = 3 from rfl, hc]
      simp only
      rw [if_neg (by unfold unk; omega), if_neg (by omega), if_pos (by omega), hL]
      rfl
    · have := hblk_new (H ++ [some (⟨vs, false, 0⟩ : Blk)]) (some ⟨vs, false, 3⟩)
      rw [hL] at this
      exact this
  · have hblt := h4.sees.lt
    have h4' : hblk (H ++ [some (⟨vs, false, 0⟩ : Blk)]) b = some ⟨cs, false, 3⟩ := by rw [app_old hblt]; exact h4
    refine ⟨hset (H ++ [some ⟨vs, false, 0⟩]) b none ++ [some ⟨cs ++ vs, false, 3⟩], fun R K => ?_, .inr ⟨H.length + 1, rfl, rfl, by omega, ?_, by rw [Nat.add_mul, h5, List.length_append, hv]⟩, by simp [hset_length], fun i hi hne => ?_⟩
    · unfold happS happ
      rw [show 1 * 3 = 3 from rfl, hc]
      simp only [if_true, h4', cond_false, h5, true_and, hL]
      rw [if_pos (by omega)]
    · have := app_new (hset (H ++ [some (⟨vs, false, 0⟩ : Blk)]) b none) (some ⟨cs ++ vs, false, 3⟩) []
      rwa [hset_length, hL] at this
    · rw [app_old (by rw [hset_length]; omega), hset_get, if_neg (by have := hne _ rfl; simp only at this; omega), app_old hi]
def goodO (o : Op3) : Bool := decide (0 ≤ o.1) && decide (o.1 ≤ 3) && ((wO o).1 == 0)
def good (ops : List Op3) : List Op3 := ops.filter goodO
def encs (ops : List Op3) : List Int := ops.flatMap fun o => (wO o).2
theorem good_take {ops : List Op3} {i : Nat} {o : Op3} (h : ops[i]? = some o) : good (ops.take (i + 1)) = good (ops.take i) ++ (if goodO o then [o] else []) := by
  unfold good; rw [take_succ h, List.filter_append]; congr 1; cases hg : goodO o <;> simp [hg]
theorem encs_app (a b : List Op3) : encs (a ++ b) = encs a ++ encs b := by simp [encs]
/-- The first loop's round. -/
structure Rnd (N : Nat) (H : Heap) (p : Nat) (q : Option Addr) (qg : Option Addr) (cg : Nat) (gs : List Op3) : Prop where
  w : Wr N H p q (encs gs)
  b : Bld N 3 H qg gs.length cg (gs.flatMap opc)
  ap : ∀ a, qg = some a → a.block ≠ p
  aq : ∀ a b, q = some a → qg = some b → a.block ≠ b.block
theorem ret_l {k : Nat} (hk : 100000 < k) {ops : List Op3} (c : Nat) (qm : Option Addr) (lm cm : Nat) {q0 : Option Addr} {H0 : Heap} (hS : Shows H0 q0 (ops.flatMap opc)) (hl : ops.length ≤ 200) (hu : uns ops ≤ 70000) (hwf : ∀ o ∈ ops, wf3 o) : ∀ (m n i : Nat), m < n → ops.length = i + m → ∀ (H : Heap) (p : Nat) (q qg : Option Addr) (cg : Nat), Rnd H0.length H p q qg cg (good (ops.take i)) → Old H0.length H0 H → (encs (good (ops.take i))).length ≤ i * 64 + uns (ops.take i) →
    ∃ H' q' qg' cg', (∀ (R : Type) (KE : Option Addr → Nat → Nat → Option Addr → Option Addr → Nat → Nat → Heap → Option R), L_BitioReturns_l1 k KE n qm lm cm (some ⟨p, 0, none⟩) qg (good (ops.take i)).length cg q0 ops.length c ((ops.length : Nat) : Int) (i : Int) H = KE qm lm cm (some ⟨p, 0, none⟩) qg' (good ops).length cg' H') ∧ Rnd H0.length H' p q' qg' cg' (good ops) ∧ Old H0.length H0 H' ∧ (encs (good ops)).length ≤ 100000 := by
  have hlow := shows_below hS
  intro m
  induction m with
  | zero =>
    intro n i hn hi H p q qg cg T hO hL
    obtain ⟨n, rfl⟩ : ∃ n', n = n' + 1 := ⟨n - 1, by omega⟩
    have ed : decide ((i : Int) < ((ops.length : Nat) : Int)) = false := decide_eq_false (by omega)
    have ht : ops.take i = ops := List.take_of_length_le (by omega)
    rw [ht] at T hL ⊢
    refine ⟨H, q, qg, cg, fun R KE => ?_, T, hO, by omega⟩
    unfold L_BitioReturns_l1 L_BitioReturns_l1_b
    exact go_f ed rfl
  | succ m ih =>
    intro n i hn hi H p q qg cg T hO hL
    obtain ⟨n, rfl⟩ : ∃ n', n = n' + 1 := ⟨n - 1, by omega⟩
    have ed : decide ((i : Int) < ((ops.length : Nat) : Int)) = true := decide_eq_true (by omega)
    obtain ⟨o, ho⟩ : ∃ o, ops[i]? = some o := ⟨_, List.getElem?_eq_getElem (by omega)⟩
    have hs : uns (ops.take (i + 1)) = uns (ops.take i) + un o := by rw [take_succ ho]; simp [uns]
    have hle : uns (ops.take (i + 1)) ≤ uns ops := by
      have e : uns ops = uns (ops.take (i + 1)) + uns (ops.drop (i + 1)) := by
        unfold uns; rw [← List.sum_append, ← List.map_append, List.take_append_drop]
      omega
    have hwl := wO_len o
    have hv := (wf_le (hwf o (List.mem_of_getElem? ho)).2.1).2
    have hgt := good_take ho
    have hgl : (good (ops.take i)).length ≤ 200 := by
      have h1 : (good (ops.take i)).length ≤ (ops.take i).length := List.length_filter_le _ _
      rw [List.length_take] at h1; omega
    obtain ⟨b, f, e0, g0, g1, g2⟩ := op_at (hS.old hO hlow) ho
    have hN : H0.length ≤ H.length := by have := hO.1; omega
    obtain ⟨H2, hH2⟩ : ∃ H2, H2 = H ++ [some ⟨[.int .i64 o.1, .int .i64 o.2.1, .int .i64 o.2.2], false, 0⟩] := ⟨_, rfl⟩
    have o2 : Old H.length H H2 := hH2 ▸ Old.app _ _
    have O2 : Owns H2 H.length [.int .i64 o.1, .int .i64 o.2.1, .int .i64 o.2.2] 0 := by rw [hH2]; exact hblk_new H _
    have m2 : ∀ i, hcell H2 H.length i = [Value.int .i64 o.1, .int .i64 o.2.1, .int .i64 o.2.2][i]? := fun i => O2.sees.cell i
    have W3 := T.w.keep3 o2
    have B3 := T.b.old o2 (Nat.le_refl _)
    have hN3 : H0.length ≤ H2.length := by have := o2.1; omega
    have w : IntKind.wrap .i64 ((i : Int) + 1) = ((i + 1 : Nat) : Int) := by rw [w64 (by omega) (by omega)]; omega
    have O3 : Old H0.length H0 H2 := hO.trans (o2.mono hN)
    -- a call that is left out
    have skip : ∀ (H4 : Heap) (q4 : Option Addr), goodO o = false → Wr H0.length H4 p q4 (encs (good (ops.take i))) → Bld H0.length 3 H4 qg (good (ops.take i)).length cg ((good (ops.take i)).flatMap opc) → (∀ a b, q4 = some a → qg = some b → a.block ≠ b.block) → Old H0.length H0 H4 →
        (∀ (R : Type) (KN : Option Addr → Nat → Nat → Option Addr → Option Addr → Nat → Nat → Option Addr → Nat → Nat → Int → Int → Heap → Option R), L_BitioReturns_p2 k qm lm cm (some ⟨p, 0, none⟩) qg (good (ops.take i)).length cg q0 ops.length c ((ops.length : Nat) : Int) (i : Int) H KN = KN qm lm cm (some ⟨p, 0, none⟩) qg (good (ops.take i)).length cg q0 ops.length c ((ops.length : Nat) : Int) (i : Int) H4) →
        ∃ H' q' qg' cg', (∀ (R : Type) (KE : Option Addr → Nat → Nat → Option Addr → Option Addr → Nat → Nat → Heap → Option R), L_BitioReturns_l1 k KE (n + 1) qm lm cm (some ⟨p, 0, none⟩) qg (good (ops.take i)).length cg q0 ops.length c ((ops.length : Nat) : Int) (i : Int) H = KE qm lm cm (some ⟨p, 0, none⟩) qg' (good ops).length cg' H') ∧ Rnd H0.length H' p q' qg' cg' (good ops) ∧ Old H0.length H0 H' ∧ (encs (good ops)).length ≤ 100000 := by
      intro H4 q4 hg W4 B4 a4 O4 key
      rw [hg] at hgt
      simp only [Bool.false_eq_true, if_false, List.append_nil] at hgt
      obtain ⟨H', q', qg', cg', e6, T6, O6, L6⟩ := ih n (i + 1) (by omega) (by omega) H4 p q4 qg cg (by rw [hgt]; exact ⟨W4, B4, T.ap, a4⟩) O4 (by rw [hgt]; omega)
      rw [hgt] at e6
      refine ⟨H', q', qg', cg', fun R KE => ?_, T6, O6, L6⟩
      unfold L_BitioReturns_l1 L_BitioReturns_l1_b
      refine go_t ed ((key _ _).trans ?_)
      try dsimp only
      rw [w]
      exact e6 _ _
    by_cases c0 : 0 ≤ o.1
    · have d0 : decide (o.1 ≥ 0) = true := decide_eq_true c0
      by_cases c3 : o.1 ≤ 3
      · have d3 : decide (o.1 ≤ 3) = true := decide_eq_true c3
        obtain ⟨q4, H4, e4, W4, S4⟩ := write_eq hk W3 hN3 (by omega) o hv
        have hqlt := T.w.qlt
        have hplt := T.w.lt
        have hglt := T.b.below
        have hgq : Apt p q H.length qg := ⟨by omega, (fun a ha => by have := hqlt a ha; omega), T.ap, T.aq⟩
        have O4 := Owns.stp S4 O2 (by omega) (fun a ha => by have := hqlt a ha; omega)
        have m4 : ∀ i, hcell H4 H.length i = [Value.int .i64 o.1, .int .i64 o.2.1, .int .i64 o.2.2][i]? := fun i => O4.sees.cell i
        have B4 := Bld.stp S4 B3 T.ap T.aq
        have hn2 : H.length ≤ H2.length := o2.1
        have A4 := (hgq.step S4 (by have := O2.lt; omega) (fun a ha => by have := hglt a ha; omega))
        have OO4 : Old H0.length H0 H4 := O3.trans (S4.below W3.low W3.qlow hN3)
        have hn4 := S4.len
        by_cases ce : (wO o).1 = 0
        · have dE : ((wO o).1 == 0) = true := by rw [ce]; rfl
          have hg : goodO o = true := by unfold goodO; rw [decide_eq_true c0, decide_eq_true c3, dE]; rfl
          rw [hg] at hgt
          simp only [if_true] at hgt
          obtain ⟨H5, hH5⟩ : ∃ H5, H5 = H4 ++ [some ⟨[.int .i64 o.1, .int .i64 o.2.1, .int .i64 o.2.2], false, 0⟩] := ⟨_, rfl⟩
          obtain ⟨H6, e6, B6, n6, s6⟩ := app3 B4 (by omega) (vs := [.int .i64 o.1, .int .i64 o.2.1, .int .i64 o.2.2]) rfl hgl
          rw [← hH5] at e6
          have hp4 := W4.lt
          have hq4 := W4.qlt
          have S6 : Stp H.length qg H4 (some ⟨H4.length + 1, 0, none⟩) H6 := ⟨by omega, fun i hi _ h2 => s6 i hi h2, .inr fun a ha => by cases ha; simp only; omega⟩
          have W6 := W4.stp S6 A4.symm
          have B6' : Bld H0.length 3 H6 (some ⟨H4.length + 1, 0, none⟩) (good (ops.take (i + 1))).length unk ((good (ops.take (i + 1))).flatMap opc) := by
            rw [hgt, List.flatMap_append, List.length_append]
            exact B6
          have hen : encs (good (ops.take (i + 1))) = encs (good (ops.take i)) ++ (wO o).2 := by rw [hgt, encs_app]; simp [encs]
          have O6 : Old H0.length H0 H6 := OO4.trans ⟨by omega, fun i hi => s6 i (by omega) fun a ha => by have := Bld.qlow T.b a ha; omega⟩
          obtain ⟨H', q', qg', cg', e7, T7, O7, L7⟩ := ih n (i + 1) (by omega) (by omega) H6 p q4 _ _ ⟨by rw [hen]; exact W6, B6', (fun a ha => by cases ha; simp only; omega), (fun a b ha hb => by cases hb; have := hq4 a ha; simp only; omega)⟩ O6 (by rw [hen, List.length_append]; omega)
          have hlen : (good (ops.take (i + 1))).length = (good (ops.take i)).length + 1 := by rw [hgt, List.length_append]; rfl
          rw [hlen] at e7
          refine ⟨H', q', qg', cg', fun R KE => ?_, T7, O7, L7⟩
          unfold L_BitioReturns_l1 L_BitioReturns_l1_b L_BitioReturns_p2 L_BitioReturns_p2_b L_BitioReturns_p3 L_BitioReturns_p3_b
          repeat (first | (with_reducible refine (e0 _ _).trans ?_) | (with_reducible refine (e4 _ _).trans ?_) | (with_reducible refine (e6 _ _).trans ?_) | ((with_reducible refine go_ip (x := ?_) ?_ ?_); rotate_left 1; (first | ((with_reducible refine (m2 _).trans ?_); rfl) | ((with_reducible refine (m4 _).trans ?_); rfl) | exact g0 | exact g1 | exact g2 | rfl)) | ((with_reducible refine go_bp (x := ?_) ?_ ?_); rotate_left 1; (first | ((with_reducible refine (m2 _).trans ?_); rfl) | ((with_reducible refine (m4 _).trans ?_); rfl) | exact g0 | exact g1 | exact g2 | rfl)) | ((with_reducible refine go_lp (x := ?_) (l := ?_) (c := ?_) ?_ ?_); rotate_left 3; (first | ((with_reducible refine (m2 _).trans ?_); rfl) | ((with_reducible refine (m4 _).trans ?_); rfl) | exact g0 | exact g1 | exact g2 | rfl)) | ((with_reducible refine go_pp (x := ?_) ?_ ?_); rotate_left 1; (first | ((with_reducible refine (m2 _).trans ?_); rfl) | ((with_reducible refine (m4 _).trans ?_); rfl) | exact g0 | exact g1 | exact g2 | rfl)) | ((with_reducible refine go_i (x := ?_) ?_ ?_); rotate_left 1; (first | ((with_reducible refine (m2 _).trans ?_); rfl) | ((with_reducible refine (m4 _).trans ?_); rfl) | exact g0 | exact g1 | exact g2 | rfl)) | ((with_reducible refine go_b (x := ?_) ?_ ?_); rotate_left 1; (first | ((with_reducible refine (m2 _).trans ?_); rfl) | ((with_reducible refine (m4 _).trans ?_); rfl) | exact g0 | exact g1 | exact g2 | rfl)) | ((with_reducible refine go_l (x := ?_) (l := ?_) (c := ?_) ?_ ?_); rotate_left 3; (first | ((with_reducible refine (m2 _).trans ?_); rfl) | ((with_reducible refine (m4 _).trans ?_); rfl) | exact g0 | exact g1 | exact g2 | rfl)) | ((with_reducible refine go_p (x := ?_) ?_ ?_); rotate_left 1; (first | ((with_reducible refine (m2 _).trans ?_); rfl) | ((with_reducible refine (m4 _).trans ?_); rfl) | exact g0 | exact g1 | exact g2 | rfl)) | ((with_reducible refine go_halst hH2 ?_ ?_ ?_); rfl; rfl) | (with_reducible refine go_halN hH2 ?_) | ((with_reducible refine go_halst hH5 ?_ ?_ ?_); rfl; rfl) | (with_reducible refine go_halN hH5 ?_) | (with_reducible refine go_t ed ?_) | (with_reducible refine go_f ed ?_) | (with_reducible refine go_t d0 ?_) | (with_reducible refine go_f d0 ?_) | (with_reducible refine go_t d3 ?_) | (with_reducible refine go_f d3 ?_) | (with_reducible refine go_t dE ?_) | (with_reducible refine go_f dE ?_) | ((with_reducible refine go_t ?_ ?_); (show _ = true; rfl)) | ((with_reducible refine go_f ?_ ?_); (show _ = false; rfl)) | (with_reducible refine go_ne ?_) | (with_reducible refine go_eq ?_) | (with_reducible refine go_fad ?_) | (with_reducible refine go_nil ?_))
          try dsimp only
          rw [w]
          exact e7 _ _
        · have dE : ((wO o).1 == 0) = false := by simpa using ce
          have hg : goodO o = false := by unfold goodO; rw [decide_eq_true c0, decide_eq_true c3, dE]; rfl
          have hnil : (wO o).2 = [] := by
            rcases wO_ec o with h | h
            · exact (ce h).elim
            · exact h.2
          rw [hnil, List.append_nil] at W4
          refine skip H4 q4 hg W4 B4 A4.2.2.2 OO4 fun R KN => ?_
          unfold L_BitioReturns_p2 L_BitioReturns_p2_b L_BitioReturns_p3 L_BitioReturns_p3_b
          repeat (first | (with_reducible refine (e0 _ _).trans ?_) | (with_reducible refine (e4 _ _).trans ?_) | ((with_reducible refine go_ip (x := ?_) ?_ ?_); rotate_left 1; (first | ((with_reducible refine (m2 _).trans ?_); rfl) | ((with_reducible refine (m4 _).trans ?_); rfl) | exact g0 | exact g1 | exact g2 | rfl)) | ((with_reducible refine go_bp (x := ?_) ?_ ?_); rotate_left 1; (first | ((with_reducible refine (m2 _).trans ?_); rfl) | ((with_reducible refine (m4 _).trans ?_); rfl) | exact g0 | exact g1 | exact g2 | rfl)) | ((with_reducible refine go_lp (x := ?_) (l := ?_) (c := ?_) ?_ ?_); rotate_left 3; (first | ((with_reducible refine (m2 _).trans ?_); rfl) | ((with_reducible refine (m4 _).trans ?_); rfl) | exact g0 | exact g1 | exact g2 | rfl)) | ((with_reducible refine go_pp (x := ?_) ?_ ?_); rotate_left 1; (first | ((with_reducible refine (m2 _).trans ?_); rfl) | ((with_reducible refine (m4 _).trans ?_); rfl) | exact g0 | exact g1 | exact g2 | rfl)) | ((with_reducible refine go_i (x := ?_) ?_ ?_); rotate_left 1; (first | ((with_reducible refine (m2 _).trans ?_); rfl) | ((with_reducible refine (m4 _).trans ?_); rfl) | exact g0 | exact g1 | exact g2 | rfl)) | ((with_reducible refine go_b (x := ?_) ?_ ?_); rotate_left 1; (first | ((with_reducible refine (m2 _).trans ?_); rfl) | ((with_reducible refine (m4 _).trans ?_); rfl) | exact g0 | exact g1 | exact g2 | rfl)) | ((with_reducible refine go_l (x := ?_) (l := ?_) (c := ?_) ?_ ?_); rotate_left 3; (first | ((with_reducible refine (m2 _).trans ?_); rfl) | ((with_reducible refine (m4 _).trans ?_); rfl) | exact g0 | exact g1 | exact g2 | rfl)) | ((with_reducible refine go_p (x := ?_) ?_ ?_); rotate_left 1; (first | ((with_reducible refine (m2 _).trans ?_); rfl) | ((with_reducible refine (m4 _).trans ?_); rfl) | exact g0 | exact g1 | exact g2 | rfl)) | ((with_reducible refine go_halst hH2 ?_ ?_ ?_); rfl; rfl) | (with_reducible refine go_halN hH2 ?_) | (with_reducible refine go_t d0 ?_) | (with_reducible refine go_f d0 ?_) | (with_reducible refine go_t d3 ?_) | (with_reducible refine go_f d3 ?_) | (with_reducible refine go_t dE ?_) | (with_reducible refine go_f dE ?_) | ((with_reducible refine go_t ?_ ?_); (show _ = true; rfl)) | ((with_reducible refine go_f ?_ ?_); (show _ = false; rfl)) | (with_reducible refine go_ne ?_) | (with_reducible refine go_eq ?_) | (with_reducible refine go_fad ?_) | (with_reducible refine go_nil ?_))
          rfl
      · have d3 : decide (o.1 ≤ 3) = false := decide_eq_false c3
        have hg : goodO o = false := by unfold goodO; rw [decide_eq_true c0, d3]; rfl
        refine skip H2 q hg W3 B3 T.aq O3 fun R KN => ?_
        unfold L_BitioReturns_p2 L_BitioReturns_p2_b L_BitioReturns_p3 L_BitioReturns_p3_b
        repeat (first | (with_reducible refine (e0 _ _).trans ?_) | ((with_reducible refine go_ip (x := ?_) ?_ ?_); rotate_left 1; (first | ((with_reducible refine (m2 _).trans ?_); rfl) | exact g0 | exact g1 | exact g2 | rfl)) | ((with_reducible refine go_bp (x := ?_) ?_ ?_); rotate_left 1; (first | ((with_reducible refine (m2 _).trans ?_); rfl) | exact g0 | exact g1 | exact g2 | rfl)) | ((with_reducible refine go_lp (x := ?_) (l := ?_) (c := ?_) ?_ ?_); rotate_left 3; (first | ((with_reducible refine (m2 _).trans ?_); rfl) | exact g0 | exact g1 | exact g2 | rfl)) | ((with_reducible refine go_pp (x := ?_) ?_ ?_); rotate_left 1; (first | ((with_reducible refine (m2 _).trans ?_); rfl) | exact g0 | exact g1 | exact g2 | rfl)) | ((with_reducible refine go_i (x := ?_) ?_ ?_); rotate_left 1; (first | ((with_reducible refine (m2 _).trans ?_); rfl) | exact g0 | exact g1 | exact g2 | rfl)) | ((with_reducible refine go_b (x := ?_) ?_ ?_); rotate_left 1; (first | ((with_reducible refine (m2 _).trans ?_); rfl) | exact g0 | exact g1 | exact g2 | rfl)) | ((with_reducible refine go_l (x := ?_) (l := ?_) (c := ?_) ?_ ?_); rotate_left 3; (first | ((with_reducible refine (m2 _).trans ?_); rfl) | exact g0 | exact g1 | exact g2 | rfl)) | ((with_reducible refine go_p (x := ?_) ?_ ?_); rotate_left 1; (first | ((with_reducible refine (m2 _).trans ?_); rfl) | exact g0 | exact g1 | exact g2 | rfl)) | ((with_reducible refine go_halst hH2 ?_ ?_ ?_); rfl; rfl) | (with_reducible refine go_halN hH2 ?_) | (with_reducible refine go_t d0 ?_) | (with_reducible refine go_f d0 ?_) | (with_reducible refine go_t d3 ?_) | (with_reducible refine go_f d3 ?_) | ((with_reducible refine go_t ?_ ?_); (show _ = true; rfl)) | ((with_reducible refine go_f ?_ ?_); (show _ = false; rfl)) | (with_reducible refine go_ne ?_) | (with_reducible refine go_eq ?_) | (with_reducible refine go_fad ?_) | (with_reducible refine go_nil ?_))
        rfl
    · have d0 : decide (o.1 ≥ 0) = false := decide_eq_false c0
      have hg : goodO o = false := by unfold goodO; rw [show decide (0 ≤ o.1) = false from d0]; rfl
      refine skip H2 q hg W3 B3 T.aq O3 fun R KN => ?_
      unfold L_BitioReturns_p2 L_BitioReturns_p2_b L_BitioReturns_p3 L_BitioReturns_p3_b
      repeat (first | (with_reducible refine (e0 _ _).trans ?_) | ((with_reducible refine go_ip (x := ?_) ?_ ?_); rotate_left 1; (first | ((with_reducible refine (m2 _).trans ?_); rfl) | exact g0 | exact g1 | exact g2 | rfl)) | ((with_reducible refine go_bp (x := ?_) ?_ ?_); rotate_left 1; (first | ((with_reducible refine (m2 _).trans ?_); rfl) | exact g0 | exact g1 | exact g2 | rfl)) | ((with_reducible refine go_lp (x := ?_) (l := ?_) (c := ?_) ?_ ?_); rotate_left 3; (first | ((with_reducible refine (m2 _).trans ?_); rfl) | exact g0 | exact g1 | exact g2 | rfl)) | ((with_reducible refine go_pp (x := ?_) ?_ ?_); rotate_left 1; (first | ((with_reducible refine (m2 _).trans ?_); rfl) | exact g0 | exact g1 | exact g2 | rfl)) | ((with_reducible refine go_i (x := ?_) ?_ ?_); rotate_left 1; (first | ((with_reducible refine (m2 _).trans ?_); rfl) | exact g0 | exact g1 | exact g2 | rfl)) | ((with_reducible refine go_b (x := ?_) ?_ ?_); rotate_left 1; (first | ((with_reducible refine (m2 _).trans ?_); rfl) | exact g0 | exact g1 | exact g2 | rfl)) | ((with_reducible refine go_l (x := ?_) (l := ?_) (c := ?_) ?_ ?_); rotate_left 3; (first | ((with_reducible refine (m2 _).trans ?_); rfl) | exact g0 | exact g1 | exact g2 | rfl)) | ((with_reducible refine go_p (x := ?_) ?_ ?_); rotate_left 1; (first | ((with_reducible refine (m2 _).trans ?_); rfl) | exact g0 | exact g1 | exact g2 | rfl)) | ((with_reducible refine go_halst hH2 ?_ ?_ ?_); rfl; rfl) | (with_reducible refine go_halN hH2 ?_) | (with_reducible refine go_t d0 ?_) | (with_reducible refine go_f d0 ?_) | ((with_reducible refine go_t ?_ ?_); (show _ = true; rfl)) | ((with_reducible refine go_f ?_ ?_); (show _ = false; rfl)) | (with_reducible refine go_ne ?_) | (with_reducible refine go_eq ?_) | (with_reducible refine go_fad ?_) | (with_reducible refine go_nil ?_))
      rfl
/-- A copy of bytes, appended to nothing. -/
theorem cpy_eq' {H : Heap} {q : Option Addr} {bs : List Int} (hS : Shows H q (byt bs)) (hl : bs.length < 1000000) : ∃ xb sz c H1 H', H1 = H ++ [some (⟨[], false, 0⟩ : Blk)] ∧ (∀ (R : Type) (K : Option Addr → Nat → Nat → Heap → Option R), happS 1 1 H1 (some ⟨H.length, 0, none⟩) 0 0 q bs.length K = K (some ⟨xb, 0, none⟩) bs.length c H') ∧ Owns H' xb (byt bs) sz ∧ H.length ≤ xb ∧ Old H.length H H' ∧ ((c = unk ∧ sz = 1) ∨ (c = 0 ∧ sz = 0 ∧ bs = [])) := by
  obtain ⟨Ha, hHa⟩ : ∃ Ha, Ha = H ++ [some (⟨[], false, 0⟩ : Blk)] := ⟨_, rfl⟩
  have oa : Old H.length H Ha := hHa ▸ Old.app _ _
  have na : Ha.length = H.length + 1 := by rw [hHa]; simp
  have hc := (hS.keep oa).hcells
  rw [byt_len] at hc
  by_cases h0 : bs.length = 0
  · have : bs = [] := List.length_eq_zero_iff.1 h0
    subst this
    refine ⟨H.length, 0, 0, Ha, Ha, hHa, fun R K => ?_, by rw [hHa]; exact hblk_new H _, Nat.le_refl _, oa, .inr ⟨rfl, rfl, rfl⟩⟩
    have hc0 : FW.hcells Ha q 0 = some [] := by unfold FW.hcells; rfl
    show happS 1 1 Ha (some ⟨H.length, 0, none⟩) 0 0 q 0 K = _
    unfold happS happ
    rw [Nat.zero_mul, hc0]
    simp only
    rw [if_neg (by unfold unk; omega), if_pos (by omega), if_pos trivial]
    rfl
  · obtain ⟨H1, hH1⟩ : ∃ H1, H1 = Ha ++ [some (⟨byt bs, false, 1⟩ : Blk)] := ⟨_, rfl⟩
    have o1 : Old Ha.length Ha H1 := hH1 ▸ Old.app _ _
    refine ⟨Ha.length, 1, unk, Ha, H1, hHa, fun R K => ?_, by rw [hH1]; exact hblk_new Ha _, by omega, oa.trans (o1.mono oa.1), .inl ⟨rfl, rfl⟩⟩
    unfold happS happ
    rw [Nat.mul_one, hc]
    simp only
    rw [if_neg (by unfold unk; omega), if_neg (by omega), if_pos (by omega)]
    have : FW.hcells Ha (some ⟨H.length, 0, none⟩) (0 * 1) = some [] := rfl
    rw [this, hH1]
    simp
/-- More bytes behind a copy. -/
theorem more_eq {H : Heap} {xb sz c : Nat} {bs ms : List Int} {q : Option Addr} (hO : Owns H xb (byt bs) sz) (hc : (c = unk ∧ sz = 1) ∨ (c = 0 ∧ sz = 0 ∧ bs = [])) (hS : Shows H q (byt ms)) (hl : bs.length + ms.length < 1000000) : ∃ xb' c' H', (∀ (R : Type) (K : Option Addr → Nat → Nat → Heap → Option R), happS 1 1 H (some ⟨xb, 0, none⟩) bs.length c q ms.length K = K xb' (bs ++ ms).length c' H') ∧ Shows H' xb' (byt (bs ++ ms)) ∧ H.length ≤ H'.length ∧ ∀ i, i < H.length → i ≠ xb → hblk H' i = hblk H i := by
  have hcs := hS.hcells
  rw [byt_len] at hcs
  have h4' : hblk H xb = some ⟨byt bs, false, sz⟩ := hO
  have hx := hO.lt
  rcases hc with ⟨rfl, rfl⟩ | ⟨rfl, rfl, rfl⟩
  · refine ⟨some ⟨H.length, 0, none⟩, unk, hset H xb none ++ [some ⟨byt bs ++ byt ms, false, 1⟩], fun R K => ?_, ?_, by simp [hset_length], fun i hi hne => ?_⟩
    · unfold happS happ
      rw [Nat.mul_one, hcs]
      simp only [if_true, h4', cond_false, Nat.mul_one, byt_len, true_and]
      rw [if_pos (by omega), List.length_append]
    · have := app_new (hset H xb none) (some ⟨byt bs ++ byt ms, false, 1⟩) []
      rw [hset_length] at this
      rw [byt_app]
      exact Sees.shows ⟨_, this, rfl⟩
    · rw [app_old (by rw [hset_length]; exact hi), hset_get, if_neg (fun hh => hne hh.1)]
  · by_cases h0 : ms.length = 0
    · have : ms = [] := List.length_eq_zero_iff.1 h0
      subst this
      refine ⟨some ⟨xb, 0, none⟩, 0, H, fun R K => ?_, .inl rfl, Nat.le_refl _, fun _ _ _ => rfl⟩
      have hc0 : FW.hcells H q 0 = some [] := by unfold FW.hcells; rfl
      show happS 1 1 H (some ⟨xb, 0, none⟩) 0 0 q 0 K = _
      unfold happS happ
      rw [Nat.zero_mul, hc0]
      simp only
      rw [if_neg (by unfold unk; omega), if_pos (by omega), if_pos trivial]
      rfl
    · refine ⟨some ⟨H.length, 0, none⟩, unk, H ++ [some ⟨byt ms, false, 1⟩], fun R K => ?_, Sees.shows ⟨_, hblk_new H _, rfl⟩, by simp, fun i hi _ => app_old hi⟩
      show happS 1 1 H (some ⟨xb, 0, none⟩) 0 0 q ms.length K = _
      unfold happS happ
      rw [Nat.mul_one, hcs]
      simp only
      rw [if_neg (by unfold unk; omega), if_neg (by omega), if_pos (by omega)]
      have : FW.hcells H (some ⟨xb, 0, none⟩) (0 * 1) = some [] := rfl
      rw [this]
      simp
theorem fnB_byte {b pre t : List Int} (h : Full b pre) (ht : t.length < sz b) : ∀ x ∈ fnB b t, 0 ≤ x ∧ x ≤ 255 := by
  have hs8 := sz_le b
  have hv := val_lt t
  have hby := h.byte
  intro x hx
  unfold fnB at hx
  split at hx
  · split at hx
    · rcases List.mem_append.1 hx with h1 | h1
      · exact hby x h1
      · simp only [List.mem_singleton] at h1; omega
    · exact hby x hx
  · have hlt : val t * 2 ^ (sz b - t.length) < 2 ^ sz b := by
      have h1 : val t * 2 ^ (sz b - t.length) < 2 ^ t.length * 2 ^ (sz b - t.length) := Nat.mul_lt_mul_of_pos_right hv (Nat.two_pow_pos _)
      rwa [← Nat.pow_add, show t.length + (sz b - t.length) = sz b from by omega] at h1
    have h28 : 2 ^ sz b ≤ 2 ^ 8 := Nat.pow_le_pow_right (by omega) hs8
    rcases List.mem_append.1 hx with h1 | h1
    · exact hby x h1
    · simp only [List.mem_singleton] at h1; omega
theorem fnB_len (b t : List Int) : (fnB b t).length ≤ b.length + 1 := by
  unfold fnB
  split
  · split
    · simp
    · omega
  · simp
theorem drop_at {α : Type} {l : List α} {i : Nat} {x : α} (h : l[i]? = some x) : l.drop i = x :: l.drop (i + 1) := by
  have hi := (List.getElem?_eq_some_iff.1 h)
  obtain ⟨h1, h2⟩ := hi
  rw [List.drop_eq_getElem_cons h1, h2]
theorem back_l {k : Nat} (hk : 100000 < k) {gs : List Op3} (c : Nat) (qb : Option Addr) (lb cb : Nat) {qg : Option Addr} {H0 : Heap} (hS : Shows H0 qg (gs.flatMap opc)) (hl : gs.length ≤ 200) (hg : ∀ o ∈ gs, goodO o = true) {bs : List Int} {s2 : Nat × Nat} : ∀ (m n i : Nat), m < n → gs.length = i + m → ∀ (H : Heap) (p : Nat) (q : Option Addr) (s : Nat × Nat), Rd H p q bs s → Run bs s (encs (gs.drop i)) s2 → H0.length ≤ p → Old H0.length H0 H →
    ∃ H', (∀ (R : Type) (KE : Option Addr → Nat → Nat → Option Addr → Heap → Option R) (KR : Bool → Heap → Option R), L_BitioReturns_l4 k KE KR n qb lb cb (some ⟨p, 0, none⟩) qg gs.length c ((gs.length : Nat) : Int) (i : Int) H = KE qb lb cb (some ⟨p, 0, none⟩) H') ∧ Rd H' p q bs s2 := by
  have hlow := shows_below hS
  intro m
  induction m with
  | zero =>
    intro n i hn hi H p q s r hr hp hO
    obtain ⟨n, rfl⟩ : ∃ n', n = n' + 1 := ⟨n - 1, by omega⟩
    have ed : decide ((i : Int) < ((gs.length : Nat) : Int)) = false := decide_eq_false (by omega)
    rw [List.drop_of_length_le (by omega)] at hr
    cases hr
    refine ⟨H, fun R KE KR => ?_, r⟩
    unfold L_BitioReturns_l4 L_BitioReturns_l4_b
    exact go_f ed rfl
  | succ m ih =>
    intro n i hn hi H p q s r hr hp hO
    obtain ⟨n, rfl⟩ : ∃ n', n = n' + 1 := ⟨n - 1, by omega⟩
    have ed : decide ((i : Int) < ((gs.length : Nat) : Int)) = true := decide_eq_true (by omega)
    obtain ⟨o, ho⟩ : ∃ o, gs[i]? = some o := ⟨_, List.getElem?_eq_getElem (by omega)⟩
    have hgo := hg o (List.mem_of_getElem? ho)
    unfold goodO at hgo
    simp only [Bool.and_eq_true, decide_eq_true_eq, beq_iff_eq] at hgo
    rw [drop_at ho] at hr
    obtain ⟨s1, h1, h2⟩ := Run.split (l := (wO o).2) (m := encs (gs.drop (i + 1))) hr
    have hrb := read_back o hgo.1 hgo.2 h1
    obtain ⟨b, f, e0, g0, g1, g2⟩ := op_at (hS.old hO hlow) ho
    have hN : H0.length ≤ H.length := by have := hO.1; omega
    obtain ⟨Ha, hHa⟩ : ∃ Ha, Ha = H ++ [some ⟨[.int .i64 o.1, .int .i64 o.2.1, .int .i64 o.2.2], false, 0⟩] := ⟨_, rfl⟩
    obtain ⟨Hb, hHb⟩ : ∃ Hb, Hb = Ha ++ [some ⟨[.int .i64 o.1, .int .i64 o.2.1, .int .i64 o.2.2], false, 0⟩] := ⟨_, rfl⟩
    have oa : Old H.length H Ha := hHa ▸ Old.app _ _
    have ob : Old Ha.length Ha Hb := hHb ▸ Old.app _ _
    have na : Ha.length = H.length + 1 := by rw [hHa]; simp
    have Oa : Owns Ha H.length [.int .i64 o.1, .int .i64 o.2.1, .int .i64 o.2.2] 0 := by rw [hHa]; exact hblk_new H _
    have Ob : Owns Hb Ha.length [.int .i64 o.1, .int .i64 o.2.1, .int .i64 o.2.2] 0 := by rw [hHb]; exact hblk_new Ha _
    have Oab := Oa.old ob Oa.lt
    have ma : ∀ i, hcell Ha H.length i = [Value.int .i64 o.1, .int .i64 o.2.1, .int .i64 o.2.2][i]? := fun i => Oa.sees.cell i
    have mab : ∀ i, hcell Hb H.length i = [Value.int .i64 o.1, .int .i64 o.2.1, .int .i64 o.2.2][i]? := fun i => Oab.sees.cell i
    have hplt := r.lt
    obtain ⟨Hc, Oc, Oac, oc, key⟩ : ∃ Hc, Owns Hc Ha.length [.int .i64 o.1, .int .i64 o.2.1, .int .i64 (if o.1 = 3 then o.2.1 else o.2.2)] 0 ∧ Owns Hc H.length [.int .i64 o.1, .int .i64 o.2.1, .int .i64 o.2.2] 0 ∧ But Ha.length Hb Hc ∧ ∀ (R : Type) (KN : Option Addr → Nat → Nat → Option Addr → Option Addr → Option Addr → Option Addr → Nat → Nat → Int → Int → Heap → Option R), L_BitioReturns_p6 k qb lb cb (some ⟨p, 0, none⟩) (some ⟨H.length, 0, none⟩) (some ⟨Ha.length, 0, none⟩) qg gs.length c ((gs.length : Nat) : Int) (i : Int) Hb KN = KN qb lb cb (some ⟨p, 0, none⟩) (some ⟨H.length, 0, none⟩) (some ⟨Ha.length, 0, none⟩) qg gs.length c ((gs.length : Nat) : Int) (i : Int) Hc := by
      by_cases c3 : o.1 = 3
      · have d3 : (o.1 == 3) = true := by rw [c3]; rfl
        obtain ⟨Hc, e1, O1, b1, n1⟩ := Owns.st1 (o := 2) Ob (by simp) (.int .i64 o.2.1)
        rw [if_pos c3]
        refine ⟨Hc, O1, Oab.but b1 (by omega), b1, fun R KN => ?_⟩
        unfold L_BitioReturns_p6 L_BitioReturns_p6_b
        repeat (first | (with_reducible refine (e1 _ _).trans ?_) | ((with_reducible refine go_ip (x := ?_) ?_ ?_); rotate_left 1; (first | ((with_reducible refine (mab _).trans ?_); rfl) | rfl)) | ((with_reducible refine go_bp (x := ?_) ?_ ?_); rotate_left 1; (first | ((with_reducible refine (mab _).trans ?_); rfl) | rfl)) | ((with_reducible refine go_lp (x := ?_) (l := ?_) (c := ?_) ?_ ?_); rotate_left 3; (first | ((with_reducible refine (mab _).trans ?_); rfl) | rfl)) | ((with_reducible refine go_pp (x := ?_) ?_ ?_); rotate_left 1; (first | ((with_reducible refine (mab _).trans ?_); rfl) | rfl)) | ((with_reducible refine go_i (x := ?_) ?_ ?_); rotate_left 1; (first | ((with_reducible refine (mab _).trans ?_); rfl) | rfl)) | ((with_reducible refine go_b (x := ?_) ?_ ?_); rotate_left 1; (first | ((with_reducible refine (mab _).trans ?_); rfl) | rfl)) | ((with_reducible refine go_l (x := ?_) (l := ?_) (c := ?_) ?_ ?_); rotate_left 3; (first | ((with_reducible refine (mab _).trans ?_); rfl) | rfl)) | ((with_reducible refine go_p (x := ?_) ?_ ?_); rotate_left 1; (first | ((with_reducible refine (mab _).trans ?_); rfl) | rfl)) | ((with_reducible refine go_halst rfl ?_ ?_ ?_); rfl; rfl) | (with_reducible refine go_halN rfl ?_) | (with_reducible refine go_t d3 ?_) | (with_reducible refine go_f d3 ?_) | ((with_reducible refine go_t ?_ ?_); (show _ = true; rfl)) | ((with_reducible refine go_f ?_ ?_); (show _ = false; rfl)) | (with_reducible refine go_ne ?_) | (with_reducible refine go_eq ?_) | (with_reducible refine go_fad ?_) | (with_reducible refine go_nil ?_))
        rfl
      · have d3 : (o.1 == 3) = false := by simpa using c3
        rw [if_neg c3]
        refine ⟨Hb, Ob, Oab, .refl _ _, fun R KN => ?_⟩
        unfold L_BitioReturns_p6 L_BitioReturns_p6_b
        repeat (first | ((with_reducible refine go_ip (x := ?_) ?_ ?_); rotate_left 1; (first | ((with_reducible refine (mab _).trans ?_); rfl) | rfl)) | ((with_reducible refine go_bp (x := ?_) ?_ ?_); rotate_left 1; (first | ((with_reducible refine (mab _).trans ?_); rfl) | rfl)) | ((with_reducible refine go_lp (x := ?_) (l := ?_) (c := ?_) ?_ ?_); rotate_left 3; (first | ((with_reducible refine (mab _).trans ?_); rfl) | rfl)) | ((with_reducible refine go_pp (x := ?_) ?_ ?_); rotate_left 1; (first | ((with_reducible refine (mab _).trans ?_); rfl) | rfl)) | ((with_reducible refine go_i (x := ?_) ?_ ?_); rotate_left 1; (first | ((with_reducible refine (mab _).trans ?_); rfl) | rfl)) | ((with_reducible refine go_b (x := ?_) ?_ ?_); rotate_left 1; (first | ((with_reducible refine (mab _).trans ?_); rfl) | rfl)) | ((with_reducible refine go_l (x := ?_) (l := ?_) (c := ?_) ?_ ?_); rotate_left 3; (first | ((with_reducible refine (mab _).trans ?_); rfl) | rfl)) | ((with_reducible refine go_p (x := ?_) ?_ ?_); rotate_left 1; (first | ((with_reducible refine (mab _).trans ?_); rfl) | rfl)) | ((with_reducible refine go_halst rfl ?_ ?_ ?_); rfl; rfl) | (with_reducible refine go_halN rfl ?_) | (with_reducible refine go_t d3 ?_) | (with_reducible refine go_f d3 ?_) | ((with_reducible refine go_t ?_ ?_); (show _ = true; rfl)) | ((with_reducible refine go_f ?_ ?_); (show _ = false; rfl)) | (with_reducible refine go_ne ?_) | (with_reducible refine go_eq ?_) | (with_reducible refine go_fad ?_) | (with_reducible refine go_nil ?_))
        rfl
    have oHc : Old H.length H Hc := (oa.trans (ob.mono oa.1)).trans ((oc.old (Nat.le_refl _) ob.1).mono oa.1)
    have mc : ∀ i, hcell Hc Ha.length i = [Value.int .i64 o.1, .int .i64 o.2.1, .int .i64 (if o.1 = 3 then o.2.1 else o.2.2)][i]? := fun i => Oc.sees.cell i
    obtain ⟨Hd, ed', Rd', bd⟩ := read_eq hk (r.keep oHc) (o.1, o.2.1, if o.1 = 3 then o.2.1 else o.2.2)
    rw [hrb] at ed' Rd'
    have md : ∀ i, hcell Hd H.length i = [Value.int .i64 o.1, .int .i64 o.2.1, .int .i64 o.2.2][i]? := fun i => (Oac.but bd (by omega)).sees.cell i
    have w : IntKind.wrap .i64 ((i : Int) + 1) = ((i + 1 : Nat) : Int) := by rw [w64 (by omega) (by omega)]; omega
    have hNc : H0.length ≤ Hc.length := by have := oHc.1; omega
    obtain ⟨H', e7, R7⟩ := ih n (i + 1) (by omega) (by omega) Hd p q s1 Rd' h2 hp ((hO.trans (oHc.mono hN)).trans (bd.old hp hNc))
    refine ⟨H', fun R KE KR => ?_, R7⟩
    unfold L_BitioReturns_l4 L_BitioReturns_l4_b L_BitioReturns_p5 L_BitioReturns_p5_b
    repeat (first | (with_reducible refine (e0 _ _).trans ?_) | ((with_reducible refine go_ip (x := ?_) ?_ ?_); rotate_left 1; (first | ((with_reducible refine (ma _).trans ?_); rfl) | exact g0 | exact g1 | exact g2 | rfl)) | ((with_reducible refine go_bp (x := ?_) ?_ ?_); rotate_left 1; (first | ((with_reducible refine (ma _).trans ?_); rfl) | exact g0 | exact g1 | exact g2 | rfl)) | ((with_reducible refine go_lp (x := ?_) (l := ?_) (c := ?_) ?_ ?_); rotate_left 3; (first | ((with_reducible refine (ma _).trans ?_); rfl) | exact g0 | exact g1 | exact g2 | rfl)) | ((with_reducible refine go_pp (x := ?_) ?_ ?_); rotate_left 1; (first | ((with_reducible refine (ma _).trans ?_); rfl) | exact g0 | exact g1 | exact g2 | rfl)) | ((with_reducible refine go_i (x := ?_) ?_ ?_); rotate_left 1; (first | ((with_reducible refine (ma _).trans ?_); rfl) | exact g0 | exact g1 | exact g2 | rfl)) | ((with_reducible refine go_b (x := ?_) ?_ ?_); rotate_left 1; (first | ((with_reducible refine (ma _).trans ?_); rfl) | exact g0 | exact g1 | exact g2 | rfl)) | ((with_reducible refine go_l (x := ?_) (l := ?_) (c := ?_) ?_ ?_); rotate_left 3; (first | ((with_reducible refine (ma _).trans ?_); rfl) | exact g0 | exact g1 | exact g2 | rfl)) | ((with_reducible refine go_p (x := ?_) ?_ ?_); rotate_left 1; (first | ((with_reducible refine (ma _).trans ?_); rfl) | exact g0 | exact g1 | exact g2 | rfl)) | ((with_reducible refine go_halst hHa ?_ ?_ ?_); rfl; rfl) | (with_reducible refine go_halN hHa ?_) | ((with_reducible refine go_halst hHb ?_ ?_ ?_); rfl; rfl) | (with_reducible refine go_halN hHb ?_) | (with_reducible refine go_t ed ?_) | (with_reducible refine go_f ed ?_) | ((with_reducible refine go_t ?_ ?_); (show _ = true; rfl)) | ((with_reducible refine go_f ?_ ?_); (show _ = false; rfl)) | (with_reducible refine go_ne ?_) | (with_reducible refine go_eq ?_) | (with_reducible refine go_fad ?_) | (with_reducible refine go_nil ?_))
    refine (key _ _).trans ?_
    repeat (first | (with_reducible refine (ed' _ _).trans ?_) | ((with_reducible refine go_ip (x := ?_) ?_ ?_); rotate_left 1; (first | ((with_reducible refine (mc _).trans ?_); rfl) | ((with_reducible refine (md _).trans ?_); rfl) | rfl)) | ((with_reducible refine go_bp (x := ?_) ?_ ?_); rotate_left 1; (first | ((with_reducible refine (mc _).trans ?_); rfl) | ((with_reducible refine (md _).trans ?_); rfl) | rfl)) | ((with_reducible refine go_lp (x := ?_) (l := ?_) (c := ?_) ?_ ?_); rotate_left 3; (first | ((with_reducible refine (mc _).trans ?_); rfl) | ((with_reducible refine (md _).trans ?_); rfl) | rfl)) | ((with_reducible refine go_pp (x := ?_) ?_ ?_); rotate_left 1; (first | ((with_reducible refine (mc _).trans ?_); rfl) | ((with_reducible refine (md _).trans ?_); rfl) | rfl)) | ((with_reducible refine go_i (x := ?_) ?_ ?_); rotate_left 1; (first | ((with_reducible refine (mc _).trans ?_); rfl) | ((with_reducible refine (md _).trans ?_); rfl) | rfl)) | ((with_reducible refine go_b (x := ?_) ?_ ?_); rotate_left 1; (first | ((with_reducible refine (mc _).trans ?_); rfl) | ((with_reducible refine (md _).trans ?_); rfl) | rfl)) | ((with_reducible refine go_l (x := ?_) (l := ?_) (c := ?_) ?_ ?_); rotate_left 3; (first | ((with_reducible refine (mc _).trans ?_); rfl) | ((with_reducible refine (md _).trans ?_); rfl) | rfl)) | ((with_reducible refine go_p (x := ?_) ?_ ?_); rotate_left 1; (first | ((with_reducible refine (mc _).trans ?_); rfl) | ((with_reducible refine (md _).trans ?_); rfl) | rfl)) | ((with_reducible refine go_halst rfl ?_ ?_ ?_); rfl; rfl) | (with_reducible refine go_halN rfl ?_) | ((with_reducible refine go_t ?_ ?_); (show _ = true; rfl)) | ((with_reducible refine go_f ?_ ?_); (show _ = false; rfl)) | (with_reducible refine go_ne ?_) | (with_reducible refine go_eq ?_) | (with_reducible refine go_fad ?_) | (with_reducible refine go_nil ?_))
    try dsimp only
    rw [w]
    exact e7 _ _ _
theorem returns_in (H : Heap) (us : List Value) (h : AllLies H [(.slc dOp, false), (.slc (.int .u8), false)] us) : L_BitioReturns_c Bool 9223372036854777000 us H asB = some true := by
  obtain ⟨k, hk⟩ : ∃ k, k = 9223372036854777000 := ⟨_, rfl⟩
  rw [← hk]
  have hk1 : 1100000 < k := by omega
  clear hk
  obtain ⟨q, c, es, vs, rfl, _, _, hsh, hS, h2⟩ := lies_slc h
  obtain ⟨qm, cm, em, vs2, rfl, _, _, hsm, hSm, h3⟩ := lies_slc h2
  obtain rfl := lies_nil h3
  obtain ⟨ops, hl, hfl, hwf⟩ := ops_of es hsh
  obtain ⟨ms, hml, hmf, hmw⟩ := bytes_of em hsm
  rw [hfl] at hS
  rw [hmf] at hSm
  rw [← hl, ← hml]
  show L_BitioReturns k q ops.length c qm ms.length cm H (fun t H => asB (.bool t) H) = some true
  obtain ⟨H1, e1, o1⟩ := few_eq (k := k) (by omega) c hS
  cases hfew : fewB ops with
  | false =>
    rw [hfew] at e1
    unfold L_BitioReturns L_BitioReturns_b L_BitioReturns_p0 L_BitioReturns_p0_b
    repeat (first | (with_reducible refine (e1 _ _).trans ?_) | ((with_reducible refine go_ip (x := ?_) ?_ ?_); rotate_left 1; (first  | rfl)) | ((with_reducible refine go_bp (x := ?_) ?_ ?_); rotate_left 1; (first  | rfl)) | ((with_reducible refine go_lp (x := ?_) (l := ?_) (c := ?_) ?_ ?_); rotate_left 3; (first  | rfl)) | ((with_reducible refine go_pp (x := ?_) ?_ ?_); rotate_left 1; (first  | rfl)) | ((with_reducible refine go_i (x := ?_) ?_ ?_); rotate_left 1; (first  | rfl)) | ((with_reducible refine go_b (x := ?_) ?_ ?_); rotate_left 1; (first  | rfl)) | ((with_reducible refine go_l (x := ?_) (l := ?_) (c := ?_) ?_ ?_); rotate_left 3; (first  | rfl)) | ((with_reducible refine go_p (x := ?_) ?_ ?_); rotate_left 1; (first  | rfl)) | ((with_reducible refine go_halst rfl ?_ ?_ ?_); rfl; rfl) | (with_reducible refine go_halN rfl ?_) | ((with_reducible refine go_t ?_ ?_); (show _ = true; rfl)) | ((with_reducible refine go_f ?_ ?_); (show _ = false; rfl)) | (with_reducible refine go_ne ?_) | (with_reducible refine go_eq ?_) | (with_reducible refine go_fad ?_) | (with_reducible refine go_nil ?_))
    rfl
  | true =>
  rw [hfew] at e1
  by_cases c1 : ms.length > 100
  · have d1 : decide (((ms.length : Nat) : Int) > 100) = true := decide_eq_true (by omega)
    unfold L_BitioReturns L_BitioReturns_b L_BitioReturns_p0 L_BitioReturns_p0_b
    repeat (first | (with_reducible refine (e1 _ _).trans ?_) | ((with_reducible refine go_ip (x := ?_) ?_ ?_); rotate_left 1; (first  | rfl)) | ((with_reducible refine go_bp (x := ?_) ?_ ?_); rotate_left 1; (first  | rfl)) | ((with_reducible refine go_lp (x := ?_) (l := ?_) (c := ?_) ?_ ?_); rotate_left 3; (first  | rfl)) | ((with_reducible refine go_pp (x := ?_) ?_ ?_); rotate_left 1; (first  | rfl)) | ((with_reducible refine go_i (x := ?_) ?_ ?_); rotate_left 1; (first  | rfl)) | ((with_reducible refine go_b (x := ?_) ?_ ?_); rotate_left 1; (first  | rfl)) | ((with_reducible refine go_l (x := ?_) (l := ?_) (c := ?_) ?_ ?_); rotate_left 3; (first  | rfl)) | ((with_reducible refine go_p (x := ?_) ?_ ?_); rotate_left 1; (first  | rfl)) | ((with_reducible refine go_halst rfl ?_ ?_ ?_); rfl; rfl) | (with_reducible refine go_halN rfl ?_) | (with_reducible refine go_t d1 ?_) | (with_reducible refine go_f d1 ?_) | ((with_reducible refine go_t ?_ ?_); (show _ = true; rfl)) | ((with_reducible refine go_f ?_ ?_); (show _ = false; rfl)) | (with_reducible refine go_ne ?_) | (with_reducible refine go_eq ?_) | (with_reducible refine go_fad ?_) | (with_reducible refine go_nil ?_))
    rfl
  have d1 : decide (((ms.length : Nat) : Int) > 100) = false := decide_eq_false (by omega)
  have hfew2 := hfew
  unfold fewB at hfew2
  simp only [Bool.and_eq_true, decide_eq_true_eq] at hfew2
  obtain ⟨H2, e2, W2, o2, n2⟩ := nWriter_eq (N := H.length) o1.1
  have O2 : Old H.length H H2 := o1.trans (o2.mono o1.1)
  obtain ⟨H4, q4, qg, cg, e4, T4, O4, L4⟩ := ret_l (k := k) (by omega) c qm ms.length cm hS hfew2.1 hfew2.2 hwf ops.length k 0 (by omega) (by omega) H2 H1.length none none 0 ⟨W2, Bld.nil _ _ _, (fun a ha => by cases ha), (fun a b ha => by cases ha)⟩ O2 (by simp [encs, good])
  simp only [Int.natCast_zero] at e4
  have e4' : ∀ (R : Type) (KE : Option Addr → Nat → Nat → Option Addr → Option Addr → Nat → Nat → Heap → Option R), L_BitioReturns_l1 k KE k qm ms.length cm (some ⟨H1.length, 0, none⟩) none 0 0 q ops.length c ((ops.length : Nat) : Int) 0 H2 = KE qm ms.length cm (some ⟨H1.length, 0, none⟩) qg (good ops).length cg H4 := e4
  obtain ⟨b, pre, t, H5, z, e5, hF, ht, e6, O5, o5⟩ := bytes_eq k T4.w (by omega)
  have hbl := hF.len
  have hfl := fnB_len b t
  have hbt : (encs (good ops)).length = pre.length + t.length := by rw [e5, List.length_append]
  have hfn : Byts (fnB b t ++ ms) := ⟨fun x hx => by
    rcases List.mem_append.1 hx with h1 | h1
    · exact fnB_byte hF ht x h1
    · exact hmw x h1, by rw [List.length_append]; omega⟩
  obtain ⟨xb, sz', cc, Hx, H6, hHx, e7, O6, hxb, o6, hcc⟩ := cpy_eq' (own_shows O5) (by have := hfn.2; rw [List.length_append] at this; omega)
  have hS6 : Shows H6 qm (byt ms) := (((hSm.keep O4).keep o5).keep o6)
  obtain ⟨xb', c', H7, e8, S7, n7, s7⟩ := more_eq O6 hcc hS6 (by have := hfn.2; rw [List.length_append] at this; omega)
  obtain ⟨p, q8, H8, e9, R8, o8, hp, hq⟩ := nReader_eq c' S7 hfn
  have hgb := T4.b.below
  have hSg : Shows H7 qg ((good ops).flatMap opc) := Shows.but (b := xb) ((T4.b.shows.1.keep o5).keep o6) ⟨n7, s7⟩ (fun a ha => by have := hgb a ha; have := o5.1; omega)
  obtain ⟨s2, hr, hA1, hA2⟩ := fin_run hF ht (by rw [← e5]; exact T4.w.b01) ms hfn
  rw [← e5] at hr
  have hgl : (good ops).length ≤ 200 := Nat.le_trans (List.length_filter_le _ _) hfew2.1
  obtain ⟨H9, e10, R9⟩ := back_l (k := k) (by omega) cg (some ⟨H4.length, 0, none⟩) (fnB b t).length (fnB b t).length hSg hgl (fun o ho => (List.mem_filter.1 ho).2) (good ops).length k 0 (by omega) (by omega) H8 p q8 (0, 0) R8 hr hp o8
  simp only [Int.natCast_zero] at e10
  obtain ⟨Ha, ea, Ra, ba⟩ := pAlign_eq k R9
  rw [hA1] at ea Ra
  obtain ⟨Hb, eb, Rb, bb⟩ := pAlign_eq k Ra
  rw [hA2] at eb Rb
  unfold L_BitioReturns L_BitioReturns_b L_BitioReturns_p0 L_BitioReturns_p0_b
  repeat (first | (with_reducible refine (e1 _ _).trans ?_) | ((with_reducible refine go_ip (x := ?_) ?_ ?_); rotate_left 1; (first  | rfl)) | ((with_reducible refine go_bp (x := ?_) ?_ ?_); rotate_left 1; (first  | rfl)) | ((with_reducible refine go_lp (x := ?_) (l := ?_) (c := ?_) ?_ ?_); rotate_left 3; (first  | rfl)) | ((with_reducible refine go_pp (x := ?_) ?_ ?_); rotate_left 1; (first  | rfl)) | ((with_reducible refine go_i (x := ?_) ?_ ?_); rotate_left 1; (first  | rfl)) | ((with_reducible refine go_b (x := ?_) ?_ ?_); rotate_left 1; (first  | rfl)) | ((with_reducible refine go_l (x := ?_) (l := ?_) (c := ?_) ?_ ?_); rotate_left 3; (first  | rfl)) | ((with_reducible refine go_p (x := ?_) ?_ ?_); rotate_left 1; (first  | rfl)) | ((with_reducible refine go_halst hHx ?_ ?_ ?_); rfl; rfl) | (with_reducible refine go_halN hHx ?_) | (with_reducible refine go_t d1 ?_) | (with_reducible refine go_f d1 ?_) | ((with_reducible refine go_t ?_ ?_); (show _ = true; rfl)) | ((with_reducible refine go_f ?_ ?_); (show _ = false; rfl)) | (with_reducible refine go_ne ?_) | (with_reducible refine go_eq ?_) | (with_reducible refine go_fad ?_) | (with_reducible refine go_nil ?_))
  repeat (first | (with_reducible refine (e2 _ _).trans ?_) | ((with_reducible refine go_ip (x := ?_) ?_ ?_); rotate_left 1; (first  | rfl)) | ((with_reducible refine go_bp (x := ?_) ?_ ?_); rotate_left 1; (first  | rfl)) | ((with_reducible refine go_lp (x := ?_) (l := ?_) (c := ?_) ?_ ?_); rotate_left 3; (first  | rfl)) | ((with_reducible refine go_pp (x := ?_) ?_ ?_); rotate_left 1; (first  | rfl)) | ((with_reducible refine go_i (x := ?_) ?_ ?_); rotate_left 1; (first  | rfl)) | ((with_reducible refine go_b (x := ?_) ?_ ?_); rotate_left 1; (first  | rfl)) | ((with_reducible refine go_l (x := ?_) (l := ?_) (c := ?_) ?_ ?_); rotate_left 3; (first  | rfl)) | ((with_reducible refine go_p (x := ?_) ?_ ?_); rotate_left 1; (first  | rfl)) | ((with_reducible refine go_halst hHx ?_ ?_ ?_); rfl; rfl) | (with_reducible refine go_halN hHx ?_) | ((with_reducible refine go_t ?_ ?_); (show _ = true; rfl)) | ((with_reducible refine go_f ?_ ?_); (show _ = false; rfl)) | (with_reducible refine go_ne ?_) | (with_reducible refine go_eq ?_) | (with_reducible refine go_fad ?_) | (with_reducible refine go_nil ?_))
  refine (e4' _ _).trans ((e6 _ _).trans ?_)
  repeat (first | (with_reducible refine (e7 _ _).trans ?_) | (with_reducible refine (e8 _ _).trans ?_) | (with_reducible refine (e9 _ _).trans ?_) | ((with_reducible refine go_ip (x := ?_) ?_ ?_); rotate_left 1; (first  | rfl)) | ((with_reducible refine go_bp (x := ?_) ?_ ?_); rotate_left 1; (first  | rfl)) | ((with_reducible refine go_lp (x := ?_) (l := ?_) (c := ?_) ?_ ?_); rotate_left 3; (first  | rfl)) | ((with_reducible refine go_pp (x := ?_) ?_ ?_); rotate_left 1; (first  | rfl)) | ((with_reducible refine go_i (x := ?_) ?_ ?_); rotate_left 1; (first  | rfl)) | ((with_reducible refine go_b (x := ?_) ?_ ?_); rotate_left 1; (first  | rfl)) | ((with_reducible refine go_l (x := ?_) (l := ?_) (c := ?_) ?_ ?_); rotate_left 3; (first  | rfl)) | ((with_reducible refine go_p (x := ?_) ?_ ?_); rotate_left 1; (first  | rfl)) | ((with_reducible refine go_halst hHx ?_ ?_ ?_); rfl; rfl) | (with_reducible refine go_halN hHx ?_) | ((with_reducible refine go_t ?_ ?_); (show _ = true; rfl)) | ((with_reducible refine go_f ?_ ?_); (show _ = false; rfl)) | (with_reducible refine go_ne ?_) | (with_reducible refine go_eq ?_) | (with_reducible refine go_fad ?_) | (with_reducible refine go_nil ?_))
  refine (e10 _ _ _).trans ?_
  repeat (first | (with_reducible refine (ea _ _).trans ?_) | (with_reducible refine (eb _ _).trans ?_) | ((with_reducible refine go_ip (x := ?_) ?_ ?_); rotate_left 1; (first  | rfl)) | ((with_reducible refine go_bp (x := ?_) ?_ ?_); rotate_left 1; (first  | rfl)) | ((with_reducible refine go_lp (x := ?_) (l := ?_) (c := ?_) ?_ ?_); rotate_left 3; (first  | rfl)) | ((with_reducible refine go_pp (x := ?_) ?_ ?_); rotate_left 1; (first  | rfl)) | ((with_reducible refine go_i (x := ?_) ?_ ?_); rotate_left 1; (first  | rfl)) | ((with_reducible refine go_b (x := ?_) ?_ ?_); rotate_left 1; (first  | rfl)) | ((with_reducible refine go_l (x := ?_) (l := ?_) (c := ?_) ?_ ?_); rotate_left 3; (first  | rfl)) | ((with_reducible refine go_p (x := ?_) ?_ ?_); rotate_left 1; (first  | rfl)) | ((with_reducible refine go_halst rfl ?_ ?_ ?_); rfl; rfl) | (with_reducible refine go_halN rfl ?_) | ((with_reducible refine go_t ?_ ?_); (show _ = true; rfl)) | ((with_reducible refine go_f ?_ ?_); (show _ = false; rfl)) | (with_reducible refine go_ne ?_) | (with_reducible refine go_eq ?_) | (with_reducible refine go_fad ?_) | (with_reducible refine go_nil ?_))
  rfl
end Go.Proofs.Ytiapgcgpdndkiaa.Sh
