/- Bitio: the reference's calls, the calls that came in. -/
import Derived.Test.YtiapgcgpdndkiaaBtC
import Derived.Test.YtiapgcgpdndkiaaBtD
import Derived.Test.YtiapgcgpdndkiaaSh5
set_option linter.unusedVariables false
set_option linter.unusedSimpArgs false
namespace Go.Proofs.Ytiapgcgpdndkiaa.Sh
open Go.Proofs.Ytiapgcgpdndkiaa.FW Go.IntWalk
theorem writeRef_eq {k : Nat} (hk : 100000 < k) {N : Nat} {H : Heap} {p : Nat} {q : Option Addr} {l : List Int} (h : Ur N H p q l) (hN : N ≤ H.length) (hl : l.length < 800000) (o : Int × Int × Int) (hv : o.2.1 ≤ 9223372036854775807) :
    ∃ q' H', (∀ (R : Type) (K : Int → Heap → Option R), L_writeRef k (some ⟨p, 0, none⟩) o.1 o.2.1 o.2.2 H K = K (wO o).1 H') ∧ Ur N H' p q' (l ++ (wO o).2) ∧ Stp p q H q' H' := by
  obtain ⟨Hn, hHn⟩ : ∃ Hn, Hn = H ++ [some ⟨[.int .i64 o.1, .int .i64 o.2.1, .int .i64 o.2.2], false, 0⟩] := ⟨_, rfl⟩
  have o1 : Old H.length H Hn := hHn ▸ Old.app _ _
  have S0 : Stp p q H q Hn := .of_old o1
  have hW : Ur N Hn p q l := by
    obtain ⟨c, h1, h2⟩ := h.c
    exact ⟨⟨c, h1.old o1 h1.lt, h2.old o1 (Nat.le_refl _)⟩, h.low, h.apt⟩
  have hN' : N ≤ Hn.length := by have := o1.1; omega
  have m : ∀ i, hcell Hn H.length i = [Value.int .i64 o.1, .int .i64 o.2.1, .int .i64 o.2.2][i]? := fun i => by rw [hHn]; exact hcell_new _ _ _
  by_cases c0 : o.1 = 0
  · obtain ⟨q', H', e1, W, S⟩ := uPut_eq k hW hN' (by omega) o.2.1
    have d0 : (o.1 == 0) = true := by rw [c0]; rfl
    rw [show wO o = wP o.2.1 from if_pos c0]
    refine ⟨q', H', fun R K => ?_, W, S0.trans S⟩
    unfold L_writeRef L_writeRef_b
    repeat (first | (with_reducible refine (e1 _ _).trans ?_) | ((with_reducible refine go_ip (x := ?_) ?_ ?_); rotate_left 1; (first | ((with_reducible refine (m _).trans ?_); rfl) | rfl)) | ((with_reducible refine go_bp (x := ?_) ?_ ?_); rotate_left 1; (first | ((with_reducible refine (m _).trans ?_); rfl) | rfl)) | ((with_reducible refine go_lp (x := ?_) (l := ?_) (c := ?_) ?_ ?_); rotate_left 3; (first | ((with_reducible refine (m _).trans ?_); rfl) | rfl)) | ((with_reducible refine go_pp (x := ?_) ?_ ?_); rotate_left 1; (first | ((with_reducible refine (m _).trans ?_); rfl) | rfl)) | ((with_reducible refine go_i (x := ?_) ?_ ?_); rotate_left 1; (first | ((with_reducible refine (m _).trans ?_); rfl) | rfl)) | ((with_reducible refine go_b (x := ?_) ?_ ?_); rotate_left 1; (first | ((with_reducible refine (m _).trans ?_); rfl) | rfl)) | ((with_reducible refine go_l (x := ?_) (l := ?_) (c := ?_) ?_ ?_); rotate_left 3; (first | ((with_reducible refine (m _).trans ?_); rfl) | rfl)) | ((with_reducible refine go_p (x := ?_) ?_ ?_); rotate_left 1; (first | ((with_reducible refine (m _).trans ?_); rfl) | rfl)) | ((with_reducible refine go_halst hHn ?_ ?_ ?_); rfl; rfl) | (with_reducible refine go_halN hHn ?_) | (with_reducible refine go_t d0 ?_) | (with_reducible refine go_f d0 ?_) | ((with_reducible refine go_t ?_ ?_); (show _ = true; rfl)) | ((with_reducible refine go_f ?_ ?_); (show _ = false; rfl)) | (with_reducible refine go_ne ?_) | (with_reducible refine go_eq ?_) | (with_reducible refine go_fad ?_) | (with_reducible refine go_nil ?_))
    rfl
  have d0 : (o.1 == 0) = false := by simpa using c0
  by_cases c1 : o.1 = 1
  · obtain ⟨q', H', e1, W, S⟩ := uBits_eq (k := k) (by omega) hW hN' (by omega) o.2.1 o.2.2 hv
    have d1 : (o.1 == 1) = true := by rw [c1]; rfl
    rw [show wO o = wB o.2.1 o.2.2 from by unfold wO; rw [if_neg c0, if_pos c1]]
    refine ⟨q', H', fun R K => ?_, W, S0.trans S⟩
    unfold L_writeRef L_writeRef_b
    repeat (first | (with_reducible refine (e1 _ _).trans ?_) | ((with_reducible refine go_ip (x := ?_) ?_ ?_); rotate_left 1; (first | ((with_reducible refine (m _).trans ?_); rfl) | rfl)) | ((with_reducible refine go_bp (x := ?_) ?_ ?_); rotate_left 1; (first | ((with_reducible refine (m _).trans ?_); rfl) | rfl)) | ((with_reducible refine go_lp (x := ?_) (l := ?_) (c := ?_) ?_ ?_); rotate_left 3; (first | ((with_reducible refine (m _).trans ?_); rfl) | rfl)) | ((with_reducible refine go_pp (x := ?_) ?_ ?_); rotate_left 1; (first | ((with_reducible refine (m _).trans ?_); rfl) | rfl)) | ((with_reducible refine go_i (x := ?_) ?_ ?_); rotate_left 1; (first | ((with_reducible refine (m _).trans ?_); rfl) | rfl)) | ((with_reducible refine go_b (x := ?_) ?_ ?_); rotate_left 1; (first | ((with_reducible refine (m _).trans ?_); rfl) | rfl)) | ((with_reducible refine go_l (x := ?_) (l := ?_) (c := ?_) ?_ ?_); rotate_left 3; (first | ((with_reducible refine (m _).trans ?_); rfl) | rfl)) | ((with_reducible refine go_p (x := ?_) ?_ ?_); rotate_left 1; (first | ((with_reducible refine (m _).trans ?_); rfl) | rfl)) | ((with_reducible refine go_halst hHn ?_ ?_ ?_); rfl; rfl) | (with_reducible refine go_halN hHn ?_) | (with_reducible refine go_t d0 ?_) | (with_reducible refine go_f d0 ?_) | (with_reducible refine go_t d1 ?_) | (with_reducible refine go_f d1 ?_) | ((with_reducible refine go_t ?_ ?_); (show _ = true; rfl)) | ((with_reducible refine go_f ?_ ?_); (show _ = false; rfl)) | (with_reducible refine go_ne ?_) | (with_reducible refine go_eq ?_) | (with_reducible refine go_fad ?_) | (with_reducible refine go_nil ?_))
    rfl
  have d1 : (o.1 == 1) = false := by simpa using c1
  by_cases c2 : o.1 = 2
  · obtain ⟨q', H', e1, W, S⟩ := uGamma_eq (k := k) (by omega) hW hN' (by omega) o.2.1
    have d2 : (o.1 == 2) = true := by rw [c2]; rfl
    rw [show wO o = wG o.2.1 from by unfold wO; rw [if_neg c0, if_neg c1, if_pos c2]]
    refine ⟨q', H', fun R K => ?_, W, S0.trans S⟩
    unfold L_writeRef L_writeRef_b
    repeat (first | (with_reducible refine (e1 _ _).trans ?_) | ((with_reducible refine go_ip (x := ?_) ?_ ?_); rotate_left 1; (first | ((with_reducible refine (m _).trans ?_); rfl) | rfl)) | ((with_reducible refine go_bp (x := ?_) ?_ ?_); rotate_left 1; (first | ((with_reducible refine (m _).trans ?_); rfl) | rfl)) | ((with_reducible refine go_lp (x := ?_) (l := ?_) (c := ?_) ?_ ?_); rotate_left 3; (first | ((with_reducible refine (m _).trans ?_); rfl) | rfl)) | ((with_reducible refine go_pp (x := ?_) ?_ ?_); rotate_left 1; (first | ((with_reducible refine (m _).trans ?_); rfl) | rfl)) | ((with_reducible refine go_i (x := ?_) ?_ ?_); rotate_left 1; (first | ((with_reducible refine (m _).trans ?_); rfl) | rfl)) | ((with_reducible refine go_b (x := ?_) ?_ ?_); rotate_left 1; (first | ((with_reducible refine (m _).trans ?_); rfl) | rfl)) | ((with_reducible refine go_l (x := ?_) (l := ?_) (c := ?_) ?_ ?_); rotate_left 3; (first | ((with_reducible refine (m _).trans ?_); rfl) | rfl)) | ((with_reducible refine go_p (x := ?_) ?_ ?_); rotate_left 1; (first | ((with_reducible refine (m _).trans ?_); rfl) | rfl)) | ((with_reducible refine go_halst hHn ?_ ?_ ?_); rfl; rfl) | (with_reducible refine go_halN hHn ?_) | (with_reducible refine go_t d0 ?_) | (with_reducible refine go_f d0 ?_) | (with_reducible refine go_t d1 ?_) | (with_reducible refine go_f d1 ?_) | (with_reducible refine go_t d2 ?_) | (with_reducible refine go_f d2 ?_) | ((with_reducible refine go_t ?_ ?_); (show _ = true; rfl)) | ((with_reducible refine go_f ?_ ?_); (show _ = false; rfl)) | (with_reducible refine go_ne ?_) | (with_reducible refine go_eq ?_) | (with_reducible refine go_fad ?_) | (with_reducible refine go_nil ?_))
    rfl
  have d2 : (o.1 == 2) = false := by simpa using c2
  by_cases c3 : o.1 = 3
  · obtain ⟨q', H', e1, W, S⟩ := uUnary_eq (k := k) (by omega) hW hN' o.2.1 (by omega)
    have d3 : (o.1 == 3) = true := by rw [c3]; rfl
    rw [show wO o = wU o.2.1 from by unfold wO; rw [if_neg c0, if_neg c1, if_neg c2, if_pos c3]]
    refine ⟨q', H', fun R K => ?_, W, S0.trans S⟩
    unfold L_writeRef L_writeRef_b
    repeat (first | (with_reducible refine (e1 _ _).trans ?_) | ((with_reducible refine go_ip (x := ?_) ?_ ?_); rotate_left 1; (first | ((with_reducible refine (m _).trans ?_); rfl) | rfl)) | ((with_reducible refine go_bp (x := ?_) ?_ ?_); rotate_left 1; (first | ((with_reducible refine (m _).trans ?_); rfl) | rfl)) | ((with_reducible refine go_lp (x := ?_) (l := ?_) (c := ?_) ?_ ?_); rotate_left 3; (first | ((with_reducible refine (m _).trans ?_); rfl) | rfl)) | ((with_reducible refine go_pp (x := ?_) ?_ ?_); rotate_left 1; (first | ((with_reducible refine (m _).trans ?_); rfl) | rfl)) | ((with_reducible refine go_i (x := ?_) ?_ ?_); rotate_left 1; (first | ((with_reducible refine (m _).trans ?_); rfl) | rfl)) | ((with_reducible refine go_b (x := ?_) ?_ ?_); rotate_left 1; (first | ((with_reducible refine (m _).trans ?_); rfl) | rfl)) | ((with_reducible refine go_l (x := ?_) (l := ?_) (c := ?_) ?_ ?_); rotate_left 3; (first | ((with_reducible refine (m _).trans ?_); rfl) | rfl)) | ((with_reducible refine go_p (x := ?_) ?_ ?_); rotate_left 1; (first | ((with_reducible refine (m _).trans ?_); rfl) | rfl)) | ((with_reducible refine go_halst hHn ?_ ?_ ?_); rfl; rfl) | (with_reducible refine go_halN hHn ?_) | (with_reducible refine go_t d0 ?_) | (with_reducible refine go_f d0 ?_) | (with_reducible refine go_t d1 ?_) | (with_reducible refine go_f d1 ?_) | (with_reducible refine go_t d2 ?_) | (with_reducible refine go_f d2 ?_) | (with_reducible refine go_t d3 ?_) | (with_reducible refine go_f d3 ?_) | ((with_reducible refine go_t ?_ ?_); (show _ = true; rfl)) | ((with_reducible refine go_f ?_ ?_); (show _ = false; rfl)) | (with_reducible refine go_ne ?_) | (with_reducible refine go_eq ?_) | (with_reducible refine go_fad ?_) | (with_reducible refine go_nil ?_))
    rfl
  have d3 : (o.1 == 3) = false := by simpa using c3
  rw [show wO o = (0, []) from by unfold wO; rw [if_neg c0, if_neg c1, if_neg c2, if_neg c3]]
  refine ⟨q, Hn, fun R K => ?_, by simpa using hW, S0⟩
  unfold L_writeRef L_writeRef_b
  repeat (first | ((with_reducible refine go_ip (x := ?_) ?_ ?_); rotate_left 1; (first | ((with_reducible refine (m _).trans ?_); rfl) | rfl)) | ((with_reducible refine go_bp (x := ?_) ?_ ?_); rotate_left 1; (first | ((with_reducible refine (m _).trans ?_); rfl) | rfl)) | ((with_reducible refine go_lp (x := ?_) (l := ?_) (c := ?_) ?_ ?_); rotate_left 3; (first | ((with_reducible refine (m _).trans ?_); rfl) | rfl)) | ((with_reducible refine go_pp (x := ?_) ?_ ?_); rotate_left 1; (first | ((with_reducible refine (m _).trans ?_); rfl) | rfl)) | ((with_reducible refine go_i (x := ?_) ?_ ?_); rotate_left 1; (first | ((with_reducible refine (m _).trans ?_); rfl) | rfl)) | ((with_reducible refine go_b (x := ?_) ?_ ?_); rotate_left 1; (first | ((with_reducible refine (m _).trans ?_); rfl) | rfl)) | ((with_reducible refine go_l (x := ?_) (l := ?_) (c := ?_) ?_ ?_); rotate_left 3; (first | ((with_reducible refine (m _).trans ?_); rfl) | rfl)) | ((with_reducible refine go_p (x := ?_) ?_ ?_); rotate_left 1; (first | ((with_reducible refine (m _).trans ?_); rfl) | rfl)) | ((with_reducible refine go_halst hHn ?_ ?_ ?_); rfl; rfl) | (with_reducible refine go_halN hHn ?_) | (with_reducible refine go_t d0 ?_) | (with_reducible refine go_f d0 ?_) | (with_reducible refine go_t d1 ?_) | (with_reducible refine go_f d1 ?_) | (with_reducible refine go_t d2 ?_) | (with_reducible refine go_f d2 ?_) | (with_reducible refine go_t d3 ?_) | (with_reducible refine go_f d3 ?_) | ((with_reducible refine go_t ?_ ?_); (show _ = true; rfl)) | ((with_reducible refine go_f ?_ ?_); (show _ = false; rfl)) | (with_reducible refine go_ne ?_) | (with_reducible refine go_eq ?_) | (with_reducible refine go_fad ?_) | (with_reducible refine go_nil ?_))
  rfl
theorem nUr_eq {N : Nat} {H : Heap} (hN : N ≤ H.length) : ∃ H', (∀ (R : Type) (K : Option Addr → Heap → Option R), R09_NewWriter H K = K (some ⟨H.length, 0, none⟩) H') ∧ Ur N H' H.length none [] ∧ Old H.length H H' ∧ H'.length = H.length + 1 := by
  refine ⟨H ++ [some ⟨[.bool true, .slice none 0 0], false, 0⟩], fun R K => rfl, ⟨⟨0, (show hblk _ _ = _ from hblk_new H _), Bld.nil _ _ _⟩, hN, (fun a ha => by cases ha)⟩, Old.app _ _, by simp⟩
def dOp : D := .pair (.int .i64) (.pair (.int .i64) (.pair (.int .i64) .nil))
abbrev Op3 := Int × Int × Int
def opc (o : Op3) : List Value := [.int .i64 o.1, .int .i64 o.2.1, .int .i64 o.2.2]
def wf3 (o : Op3) : Prop := (Lit.int .i64 o.1).wf = true ∧ (Lit.int .i64 o.2.1).wf = true ∧ (Lit.int .i64 o.2.2).wf = true
theorem ops_of {H : Heap} : ∀ (es : List (List Value)), (∀ e ∈ es, Shp dOp H e) → ∃ ops : List Op3, ops.length = es.length ∧ es.flatten = ops.flatMap opc ∧ ∀ o ∈ ops, wf3 o := by
  intro es
  induction es with
  | nil => intro _; exact ⟨[], rfl, rfl, fun o h => by cases h⟩
  | cons e es ih =>
    intro h
    obtain ⟨ops, h1, h2, h3⟩ := ih fun x hx => h x (List.mem_cons_of_mem _ hx)
    obtain ⟨x, y, rfl, ⟨a, rfl, ha⟩, x2, y2, rfl, ⟨b, rfl, hb⟩, x3, y3, rfl, ⟨c, rfl, hc⟩, hn⟩ := h e (by simp)
    have hn' : y3 = [] := hn
    subst hn'
    refine ⟨(a, b, c) :: ops, by simp [h1], by rw [List.flatten_cons, List.flatMap_cons, h2]; rfl, fun o ho => ?_⟩
    rcases List.mem_cons.1 ho with rfl | ho
    · exact ⟨ha, hb, hc⟩
    · exact h3 o ho
theorem wf_le {a : Int} (h : (Lit.int .i64 a).wf = true) : -9223372036854775808 ≤ a ∧ a ≤ 9223372036854775807 := by
  simp only [Lit.wf, IntKind.min, IntKind.max, IntKind.signed, IntKind.bits, Bool.and_eq_true, decide_eq_true_eq, if_true] at h
  exact ⟨by omega, by omega⟩
theorem shows_below {H : Heap} {q : Option Addr} {cs : List Value} (h : Shows H q cs) : cs = [] ∨ Below H.length q := by
  rcases h with h | ⟨b, o, full, rfl, h1, _⟩
  · exact .inl h
  · exact .inr fun a ha => by cases ha; exact h1.lt
theorem opc_len (o : Op3) : (opc o).length = 3 := rfl
theorem fm_len (ops : List Op3) : (ops.flatMap opc).length = ops.length * 3 := by
  induction ops with
  | nil => rfl
  | cons o ops ih => rw [List.flatMap_cons, List.length_append, ih, opc_len, List.length_cons]; omega
theorem fm_get : ∀ (ops : List Op3) (i : Nat) (o : Op3), ops[i]? = some o → ∀ j, j < 3 → (ops.flatMap opc)[i * 3 + j]? = (opc o)[j]? := by
  intro ops
  induction ops with
  | nil => intro i o h; simp at h
  | cons x ops ih =>
    intro i o h j hj
    rw [List.flatMap_cons]
    cases i with
    | zero => simp at h; subst h; rw [Nat.zero_mul, Nat.zero_add, List.getElem?_append_left (by rw [opc_len]; exact hj)]
    | succ i =>
      simp at h
      rw [List.getElem?_append_right (by rw [opc_len]; omega), opc_len, show (i + 1) * 3 + j - 3 = i * 3 + j from by omega]
      exact ih i o h j hj
/-- A call among those that came in. -/
theorem op_at {H : Heap} {q : Option Addr} {ops : List Op3} (h : Shows H q (ops.flatMap opc)) {i : Nat} {o : Op3} (ho : ops[i]? = some o) : ∃ b f, (∀ (R : Type) (K : Option Addr → Option R), hidx q ops.length (i : Int) 3 K = K (some ⟨b, f, none⟩)) ∧ hcell H b (f + 0) = some (.int .i64 o.1) ∧ hcell H b (f + 1) = some (.int .i64 o.2.1) ∧ hcell H b (f + 2) = some (.int .i64 o.2.2) := by
  have hi : i < ops.length := (List.getElem?_eq_some_iff.1 ho).1
  obtain ⟨p, e, g, _⟩ := h.idx (l := ops.length) (size := 3) (by rw [fm_len]; omega) (i := (i : Int)) (by omega) (by omega) (by omega)
  have hp : p ≠ none := by
    intro hp; subst hp
    have := g 0 (.int .i64 o.1) (by rw [Int.toNat_natCast, fm_get ops i o ho 0 (by omega)]; rfl) (by omega)
    cases this
  obtain ⟨⟨b, f, s⟩, rfl⟩ := Option.ne_none_iff_exists'.1 hp
  have hs : s = none := by
    rcases h with h | ⟨b2, o2, full, rfl, _⟩
    · have := fm_len ops; rw [h] at this; simp at this; omega
    · have := e Nat fun p => match p with | some ⟨_, _, none⟩ => some 0 | _ => some 1
      simp only [hidx] at this
      rw [if_pos ⟨by omega, by omega⟩] at this
      cases s with
      | none => rfl
      | some s => simp at this
  subst hs
  refine ⟨b, f, e, g 0 _ (by rw [Int.toNat_natCast, fm_get ops i o ho 0 (by omega)]; rfl) (by omega), g 1 _ (by rw [Int.toNat_natCast, fm_get ops i o ho 1 (by omega)]; rfl) (by omega), g 2 _ (by rw [Int.toNat_natCast, fm_get ops i o ho 2 (by omega)]; rfl) (by omega)⟩
/-- The unary codes' bits. -/
def uns (ops : List Op3) : Nat := (ops.map un).sum
def fewB (ops : List Op3) : Bool := decide (ops.length ≤ 200) && decide (uns ops ≤ 70000)
theorem take_succ {α : Type} {l : List α} {i : Nat} {x : α} (h : l[i]? = some x) : l.take (i + 1) = l.take i ++ [x] := by rw [List.take_add_one, h]; rfl
theorem few_l (k : Nat) {ops : List Op3} (c : Nat) {q : Option Addr} (hl : ops.length ≤ 200) : ∀ (m n i : Nat), m < n → ops.length = i + m → ∀ (H : Heap), Shows H q (ops.flatMap opc) → ∃ H', (∀ (R : Type) (KE : Int → Heap → Option R), L_few_l0 k KE n ((uns (ops.take i) : Nat) : Int) q ops.length c ((ops.length : Nat) : Int) (i : Int) H = KE ((uns ops : Nat) : Int) H') ∧ Old H.length H H' := by
  have hu : ∀ l : List Op3, uns l ≤ l.length * 65535 := by
    intro l
    induction l with
    | nil => simp [uns]
    | cons o l ih =>
      have : un o ≤ 65535 := by unfold un; split <;> omega
      unfold uns at *
      rw [List.map_cons, List.sum_cons, List.length_cons]; omega
  intro m
  induction m with
  | zero =>
    intro n i hn hi H hS
    obtain ⟨n, rfl⟩ : ∃ n', n = n' + 1 := ⟨n - 1, by omega⟩
    have ed : decide ((i : Int) < ((ops.length : Nat) : Int)) = false := decide_eq_false (by omega)
    refine ⟨H, fun R KE => ?_, .refl _ _⟩
    unfold L_few_l0 L_few_l0_b
    repeat (first | ((with_reducible refine go_ip (x := ?_) ?_ ?_); rotate_left 1; (first  | rfl)) | ((with_reducible refine go_bp (x := ?_) ?_ ?_); rotate_left 1; (first  | rfl)) | ((with_reducible refine go_lp (x := ?_) (l := ?_) (c := ?_) ?_ ?_); rotate_left 3; (first  | rfl)) | ((with_reducible refine go_pp (x := ?_) ?_ ?_); rotate_left 1; (first  | rfl)) | ((with_reducible refine go_i (x := ?_) ?_ ?_); rotate_left 1; (first  | rfl)) | ((with_reducible refine go_b (x := ?_) ?_ ?_); rotate_left 1; (first  | rfl)) | ((with_reducible refine go_l (x := ?_) (l := ?_) (c := ?_) ?_ ?_); rotate_left 3; (first  | rfl)) | ((with_reducible refine go_p (x := ?_) ?_ ?_); rotate_left 1; (first  | rfl)) | ((with_reducible refine go_halst rfl ?_ ?_ ?_); rfl; rfl) | (with_reducible refine go_halN rfl ?_) | (with_reducible refine go_t ed ?_) | (with_reducible refine go_f ed ?_) | ((with_reducible refine go_t ?_ ?_); (show _ = true; rfl)) | ((with_reducible refine go_f ?_ ?_); (show _ = false; rfl)) | (with_reducible refine go_ne ?_) | (with_reducible refine go_eq ?_) | (with_reducible refine go_fad ?_) | (with_reducible refine go_nil ?_))
    rw [List.take_of_length_le (by omega)]
  | succ m ih =>
    intro n i hn hi H hS
    obtain ⟨n, rfl⟩ : ∃ n', n = n' + 1 := ⟨n - 1, by omega⟩
    have ed : decide ((i : Int) < ((ops.length : Nat) : Int)) = true := decide_eq_true (by omega)
    obtain ⟨o, ho⟩ : ∃ o, ops[i]? = some o := ⟨_, List.getElem?_eq_getElem (by omega)⟩
    obtain ⟨b, f, e0, g0, g1, g2⟩ := op_at hS ho
    obtain ⟨H2, hH2⟩ : ∃ H2, H2 = H ++ [some ⟨[.int .i64 o.1, .int .i64 o.2.1, .int .i64 o.2.2], false, 0⟩] := ⟨_, rfl⟩
    have o2 : Old H.length H H2 := hH2 ▸ Old.app _ _
    have m2 : ∀ i, hcell H2 H.length i = [Value.int .i64 o.1, .int .i64 o.2.1, .int .i64 o.2.2][i]? := fun i => by rw [hH2]; exact hcell_new _ _ _
    obtain ⟨H', e3, o3⟩ := ih n (i + 1) (by omega) (by omega) H2 (hS.keep o2)
    have w := w64 (n := (i : Int) + 1) (by omega) (by omega)
    have hs : uns (ops.take (i + 1)) = uns (ops.take i) + un o := by rw [take_succ ho]; simp [uns]
    have hb := hu (ops.take i)
    have hb2 : (ops.take i).length ≤ 200 := by rw [List.length_take]; omega
    have key : ∀ (R : Type) (KN : Int → Option Addr → Nat → Nat → Int → Int → Heap → Option R), L_few_p1 k ((uns (ops.take i) : Nat) : Int) q ops.length c ((ops.length : Nat) : Int) (i : Int) H KN = KN ((uns (ops.take (i + 1)) : Nat) : Int) q ops.length c ((ops.length : Nat) : Int) (i : Int) H2 := by
      intro R KN
      rw [hs]
      by_cases c3 : o.1 = 3
      · have d3 : (o.1 == 3) = true := by rw [c3]; rfl
        by_cases c0 : o.2.1 > 0
        · have d0 := decide_eq_true c0
          by_cases c6 : o.2.1 ≤ 65535
          · have d6 := decide_eq_true c6
            have hun : ((un o : Nat) : Int) = o.2.1 := by unfold un; rw [if_pos ⟨c3, by omega, c6⟩]; omega
            have w2 := w64 (n := ((uns (ops.take i) : Nat) : Int) + o.2.1) (by omega) (by omega)
            unfold L_few_p1 L_few_p1_b L_few_p2 L_few_p2_b
            dsimp only
            repeat (first | (with_reducible refine (e0 _ _).trans ?_) | ((with_reducible refine go_ip (x := ?_) ?_ ?_); rotate_left 1; (first | ((with_reducible refine (m2 _).trans ?_); rfl) | exact g0 | exact g1 | exact g2 | rfl)) | ((with_reducible refine go_bp (x := ?_) ?_ ?_); rotate_left 1; (first | ((with_reducible refine (m2 _).trans ?_); rfl) | exact g0 | exact g1 | exact g2 | rfl)) | ((with_reducible refine go_lp (x := ?_) (l := ?_) (c := ?_) ?_ ?_); rotate_left 3; (first | ((with_reducible refine (m2 _).trans ?_); rfl) | exact g0 | exact g1 | exact g2 | rfl)) | ((with_reducible refine go_pp (x := ?_) ?_ ?_); rotate_left 1; (first | ((with_reducible refine (m2 _).trans ?_); rfl) | exact g0 | exact g1 | exact g2 | rfl)) | ((with_reducible refine go_i (x := ?_) ?_ ?_); rotate_left 1; (first | ((with_reducible refine (m2 _).trans ?_); rfl) | exact g0 | exact g1 | exact g2 | rfl)) | ((with_reducible refine go_b (x := ?_) ?_ ?_); rotate_left 1; (first | ((with_reducible refine (m2 _).trans ?_); rfl) | exact g0 | exact g1 | exact g2 | rfl)) | ((with_reducible refine go_l (x := ?_) (l := ?_) (c := ?_) ?_ ?_); rotate_left 3; (first | ((with_reducible refine (m2 _).trans ?_); rfl) | exact g0 | exact g1 | exact g2 | rfl)) | ((with_reducible refine go_p (x := ?_) ?_ ?_); rotate_left 1; (first | ((with_reducible refine (m2 _).trans ?_); rfl) | exact g0 | exact g1 | exact g2 | rfl)) | ((with_reducible refine go_halst hH2 ?_ ?_ ?_); rfl; rfl) | (with_reducible refine go_halN hH2 ?_) | (with_reducible refine go_t d3 ?_) | (with_reducible refine go_f d3 ?_) | (with_reducible refine go_t d0 ?_) | (with_reducible refine go_f d0 ?_) | (with_reducible refine go_t d6 ?_) | (with_reducible refine go_f d6 ?_) | ((with_reducible refine go_t ?_ ?_); (show _ = true; rfl)) | ((with_reducible refine go_f ?_ ?_); (show _ = false; rfl)) | (with_reducible refine go_ne ?_) | (with_reducible refine go_eq ?_) | (with_reducible refine go_fad ?_) | (with_reducible refine go_nil ?_))
            rw [w2, ← hun]; rfl
          · have d6 := decide_eq_false c6
            have hun : un o = 0 := by unfold un; rw [if_neg fun h => c6 h.2.2]
            unfold L_few_p1 L_few_p1_b L_few_p2 L_few_p2_b
            dsimp only
            repeat (first | (with_reducible refine (e0 _ _).trans ?_) | ((with_reducible refine go_ip (x := ?_) ?_ ?_); rotate_left 1; (first | ((with_reducible refine (m2 _).trans ?_); rfl) | exact g0 | exact g1 | exact g2 | rfl)) | ((with_reducible refine go_bp (x := ?_) ?_ ?_); rotate_left 1; (first | ((with_reducible refine (m2 _).trans ?_); rfl) | exact g0 | exact g1 | exact g2 | rfl)) | ((with_reducible refine go_lp (x := ?_) (l := ?_) (c := ?_) ?_ ?_); rotate_left 3; (first | ((with_reducible refine (m2 _).trans ?_); rfl) | exact g0 | exact g1 | exact g2 | rfl)) | ((with_reducible refine go_pp (x := ?_) ?_ ?_); rotate_left 1; (first | ((with_reducible refine (m2 _).trans ?_); rfl) | exact g0 | exact g1 | exact g2 | rfl)) | ((with_reducible refine go_i (x := ?_) ?_ ?_); rotate_left 1; (first | ((with_reducible refine (m2 _).trans ?_); rfl) | exact g0 | exact g1 | exact g2 | rfl)) | ((with_reducible refine go_b (x := ?_) ?_ ?_); rotate_left 1; (first | ((with_reducible refine (m2 _).trans ?_); rfl) | exact g0 | exact g1 | exact g2 | rfl)) | ((with_reducible refine go_l (x := ?_) (l := ?_) (c := ?_) ?_ ?_); rotate_left 3; (first | ((with_reducible refine (m2 _).trans ?_); rfl) | exact g0 | exact g1 | exact g2 | rfl)) | ((with_reducible refine go_p (x := ?_) ?_ ?_); rotate_left 1; (first | ((with_reducible refine (m2 _).trans ?_); rfl) | exact g0 | exact g1 | exact g2 | rfl)) | ((with_reducible refine go_halst hH2 ?_ ?_ ?_); rfl; rfl) | (with_reducible refine go_halN hH2 ?_) | (with_reducible refine go_t d3 ?_) | (with_reducible refine go_f d3 ?_) | (with_reducible refine go_t d0 ?_) | (with_reducible refine go_f d0 ?_) | (with_reducible refine go_t d6 ?_) | (with_reducible refine go_f d6 ?_) | ((with_reducible refine go_t ?_ ?_); (show _ = true; rfl)) | ((with_reducible refine go_f ?_ ?_); (show _ = false; rfl)) | (with_reducible refine go_ne ?_) | (with_reducible refine go_eq ?_) | (with_reducible refine go_fad ?_) | (with_reducible refine go_nil ?_))
            rw [hun]; rfl
        · have d0 := decide_eq_false c0
          have hun : un o = 0 := by unfold un; rw [if_neg fun h => c0 h.2.1]
          unfold L_few_p1 L_few_p1_b L_few_p2 L_few_p2_b
          dsimp only
          repeat (first | (with_reducible refine (e0 _ _).trans ?_) | ((with_reducible refine go_ip (x := ?_) ?_ ?_); rotate_left 1; (first | ((with_reducible refine (m2 _).trans ?_); rfl) | exact g0 | exact g1 | exact g2 | rfl)) | ((with_reducible refine go_bp (x := ?_) ?_ ?_); rotate_left 1; (first | ((with_reducible refine (m2 _).trans ?_); rfl) | exact g0 | exact g1 | exact g2 | rfl)) | ((with_reducible refine go_lp (x := ?_) (l := ?_) (c := ?_) ?_ ?_); rotate_left 3; (first | ((with_reducible refine (m2 _).trans ?_); rfl) | exact g0 | exact g1 | exact g2 | rfl)) | ((with_reducible refine go_pp (x := ?_) ?_ ?_); rotate_left 1; (first | ((with_reducible refine (m2 _).trans ?_); rfl) | exact g0 | exact g1 | exact g2 | rfl)) | ((with_reducible refine go_i (x := ?_) ?_ ?_); rotate_left 1; (first | ((with_reducible refine (m2 _).trans ?_); rfl) | exact g0 | exact g1 | exact g2 | rfl)) | ((with_reducible refine go_b (x := ?_) ?_ ?_); rotate_left 1; (first | ((with_reducible refine (m2 _).trans ?_); rfl) | exact g0 | exact g1 | exact g2 | rfl)) | ((with_reducible refine go_l (x := ?_) (l := ?_) (c := ?_) ?_ ?_); rotate_left 3; (first | ((with_reducible refine (m2 _).trans ?_); rfl) | exact g0 | exact g1 | exact g2 | rfl)) | ((with_reducible refine go_p (x := ?_) ?_ ?_); rotate_left 1; (first | ((with_reducible refine (m2 _).trans ?_); rfl) | exact g0 | exact g1 | exact g2 | rfl)) | ((with_reducible refine go_halst hH2 ?_ ?_ ?_); rfl; rfl) | (with_reducible refine go_halN hH2 ?_) | (with_reducible refine go_t d3 ?_) | (with_reducible refine go_f d3 ?_) | (with_reducible refine go_t d0 ?_) | (with_reducible refine go_f d0 ?_) | ((with_reducible refine go_t ?_ ?_); (show _ = true; rfl)) | ((with_reducible refine go_f ?_ ?_); (show _ = false; rfl)) | (with_reducible refine go_ne ?_) | (with_reducible refine go_eq ?_) | (with_reducible refine go_fad ?_) | (with_reducible refine go_nil ?_))
          rw [hun]; rfl
      · have d3 : (o.1 == 3) = false := by simpa using c3
        have hun : un o = 0 := by unfold un; rw [if_neg fun h => c3 h.1]
        unfold L_few_p1 L_few_p1_b L_few_p2 L_few_p2_b
        dsimp only
        repeat (first | (with_reducible refine (e0 _ _).trans ?_) | ((with_reducible refine go_ip (x := ?_) ?_ ?_); rotate_left 1; (first | ((with_reducible refine (m2 _).trans ?_); rfl) | exact g0 | exact g1 | exact g2 | rfl)) | ((with_reducible refine go_bp (x := ?_) ?_ ?_); rotate_left 1; (first | ((with_reducible refine (m2 _).trans ?_); rfl) | exact g0 | exact g1 | exact g2 | rfl)) | ((with_reducible refine go_lp (x := ?_) (l := ?_) (c := ?_) ?_ ?_); rotate_left 3; (first | ((with_reducible refine (m2 _).trans ?_); rfl) | exact g0 | exact g1 | exact g2 | rfl)) | ((with_reducible refine go_pp (x := ?_) ?_ ?_); rotate_left 1; (first | ((with_reducible refine (m2 _).trans ?_); rfl) | exact g0 | exact g1 | exact g2 | rfl)) | ((with_reducible refine go_i (x := ?_) ?_ ?_); rotate_left 1; (first | ((with_reducible refine (m2 _).trans ?_); rfl) | exact g0 | exact g1 | exact g2 | rfl)) | ((with_reducible refine go_b (x := ?_) ?_ ?_); rotate_left 1; (first | ((with_reducible refine (m2 _).trans ?_); rfl) | exact g0 | exact g1 | exact g2 | rfl)) | ((with_reducible refine go_l (x := ?_) (l := ?_) (c := ?_) ?_ ?_); rotate_left 3; (first | ((with_reducible refine (m2 _).trans ?_); rfl) | exact g0 | exact g1 | exact g2 | rfl)) | ((with_reducible refine go_p (x := ?_) ?_ ?_); rotate_left 1; (first | ((with_reducible refine (m2 _).trans ?_); rfl) | exact g0 | exact g1 | exact g2 | rfl)) | ((with_reducible refine go_halst hH2 ?_ ?_ ?_); rfl; rfl) | (with_reducible refine go_halN hH2 ?_) | (with_reducible refine go_t d3 ?_) | (with_reducible refine go_f d3 ?_) | ((with_reducible refine go_t ?_ ?_); (show _ = true; rfl)) | ((with_reducible refine go_f ?_ ?_); (show _ = false; rfl)) | (with_reducible refine go_ne ?_) | (with_reducible refine go_eq ?_) | (with_reducible refine go_fad ?_) | (with_reducible refine go_nil ?_))
        rw [hun]; rfl
    refine ⟨H', fun R KE => ?_, o2.trans (o3.mono o2.1)⟩
    unfold L_few_l0 L_few_l0_b
    refine go_t ed ?_
    refine (key _ _).trans ?_
    try dsimp only
    rw [w]
    exact e3 _ _
theorem few_eq {k : Nat} (hk : 1000 < k) {ops : List Op3} (c : Nat) {q : Option Addr} {H : Heap} (hS : Shows H q (ops.flatMap opc)) : ∃ H', (∀ (R : Type) (K : Bool → Heap → Option R), L_few k q ops.length c H K = K (fewB ops) H') ∧ Old H.length H H' := by
  by_cases hl : ops.length ≤ 200
  · obtain ⟨H', e, o⟩ := few_l k c hl ops.length k 0 (by omega) (by omega) H hS
    have ed : decide (((ops.length : Nat) : Int) > 200) = false := decide_eq_false (by omega)
    refine ⟨H', fun R K => ?_, o⟩
    unfold L_few L_few_b
    refine go_f ed ?_
    have e' := e R fun n71 H72 => K (decide (n71 ≤ 70000)) H72
    refine e'.trans ?_
    unfold fewB
    rw [decide_eq_true hl, Bool.true_and]
    have : decide (((uns ops : Nat) : Int) ≤ 70000) = decide (uns ops ≤ 70000) := decide_eq_decide.2 (by omega)
    rw [this]
  · have ed : decide (((ops.length : Nat) : Int) > 200) = true := decide_eq_true (by omega)
    refine ⟨H, fun R K => ?_, .refl _ _⟩
    unfold L_few L_few_b
    refine go_t ed ?_
    unfold fewB
    rw [decide_eq_false hl, Bool.false_and]
end Go.Proofs.Ytiapgcgpdndkiaa.Sh
