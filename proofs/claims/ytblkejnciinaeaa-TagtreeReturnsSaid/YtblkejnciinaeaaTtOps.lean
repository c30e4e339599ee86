/- Tagtree: the calls that came in. -/
import Derived.Test.YtblkejnciinaeaaTtG
import Derived.Test.YtblkejnciinaeaaSh3
set_option linter.unusedVariables false
set_option linter.unusedSimpArgs false
namespace Go.Proofs.Ytblkejnciinaeaa.Sh
open Go.Proofs.Ytblkejnciinaeaa.FW Go.IntWalk
def dOp : D := .pair (.int .i64) (.pair (.int .i64) (.pair (.int .i64) (.pair (.int .i64) .nil)))
abbrev Op4 := Int × Int × Int × Int
def opc (o : Op4) : List Value := [.int .i64 o.1, .int .i64 o.2.1, .int .i64 o.2.2.1, .int .i64 o.2.2.2]
theorem ops_of {H : Heap} : ∀ (es : List (List Value)), (∀ e ∈ es, Shp dOp H e) → ∃ ops : List Op4, ops.length = es.length ∧ es.flatten = ops.flatMap opc := by
  intro es
  induction es with
  | nil => intro _; exact ⟨[], rfl, rfl⟩
  | cons e es ih =>
    intro h
    obtain ⟨ops, h1, h2⟩ := ih fun x hx => h x (List.mem_cons_of_mem _ hx)
    obtain ⟨x, y, rfl, ⟨a, rfl, ha⟩, x2, y2, rfl, ⟨b, rfl, hb⟩, x3, y3, rfl, ⟨c, rfl, hc⟩, x4, y4, rfl, ⟨d, rfl, hd⟩, hn⟩ := h e (by simp)
    have hn' : y4 = [] := hn
    subst hn'
    exact ⟨(a, b, c, d) :: ops, by simp [h1], by rw [List.flatten_cons, List.flatMap_cons, h2]; rfl⟩
theorem shows_below {H : Heap} {q : Option Addr} {cs : List Value} (h : Shows H q cs) : cs = [] ∨ Below H.length q := by
  rcases h with h | ⟨b, o, full, rfl, h1, _⟩
  · exact .inl h
  · exact .inr fun a ha => by cases ha; exact h1.lt
theorem opc_len (o : Op4) : (opc o).length = 4 := rfl
theorem fm_len (ops : List Op4) : (ops.flatMap opc).length = ops.length * 4 := by
  induction ops with
  | nil => rfl
  | cons o ops ih => rw [List.flatMap_cons, List.length_append, ih, opc_len, List.length_cons]; omega
theorem fm_get : ∀ (ops : List Op4) (i : Nat) (o : Op4), ops[i]? = some o → ∀ j, j < 4 → (ops.flatMap opc)[i * 4 + j]? = (opc o)[j]? := by
  intro ops
  induction ops with
  | nil => intro i o h; simp at h
  | cons x ops ih =>
    intro i o h j hj
    rw [List.flatMap_cons]
    cases i with
    | zero => simp at h; subst h; rw [Nat.zero_mul, Nat.zero_add, List.getElem?_append_left (by rw [opc_len]; exact hj)]
    | succ i =>
      simp at h
      rw [List.getElem?_append_right (by rw [opc_len]; omega), opc_len, show (i + 1) * 4 + j - 4 = i * 4 + j from by omega]
      exact ih i o h j hj
/-- A call among those that came in. -/
theorem op_at {H : Heap} {q : Option Addr} {ops : List Op4} (h : Shows H q (ops.flatMap opc)) {i : Nat} {o : Op4} (ho : ops[i]? = some o) : ∃ b f, (∀ (R : Type) (K : Option Addr → Option R), hidx q ops.length (i : Int) 4 K = K (some ⟨b, f, none⟩)) ∧ hcell H b (f + 0) = some (.int .i64 o.1) ∧ hcell H b (f + 1) = some (.int .i64 o.2.1) ∧ hcell H b (f + 2) = some (.int .i64 o.2.2.1) ∧ hcell H b (f + 3) = some (.int .i64 o.2.2.2) := by
  have hi : i < ops.length := (List.getElem?_eq_some_iff.1 ho).1
  obtain ⟨p, e, g, _⟩ := h.idx (l := ops.length) (size := 4) (by rw [fm_len]; omega) (i := (i : Int)) (by omega) (by omega) (by omega)
  have hp : p ≠ none := by
    intro hp; subst hp
    have := g 0 (.int .i64 o.1) (by rw [Int.toNat_natCast, fm_get ops i o ho 0 (by omega)]; rfl) (by omega)
    cases this
  obtain ⟨⟨b, f, s⟩, rfl⟩ := Option.ne_none_iff_exists'.1 hp
  have hs : s = none := by
    rcases h with h | ⟨b2, o2, full, rfl, _⟩
    · have := fm_len ops; rw [h] at this; simp at this; omega
    · have := e Nat fun p => match p with | some ⟨_, _, none⟩ => some 0 | _ => some 1
      simp only [hidx] at this
      rw [if_pos ⟨by omega, by omega⟩] at this
      cases s with
      | none => rfl
      | some s => simp at this
  subst hs
  refine ⟨b, f, e, g 0 _ (by rw [Int.toNat_natCast, fm_get ops i o ho 0 (by omega)]; rfl) (by omega), g 1 _ (by rw [Int.toNat_natCast, fm_get ops i o ho 1 (by omega)]; rfl) (by omega), g 2 _ (by rw [Int.toNat_natCast, fm_get ops i o ho 2 (by omega)]; rfl) (by omega), g 3 _ (by rw [Int.toNat_natCast, fm_get ops i o ho 3 (by omega)]; rfl) (by omega)⟩
/-- A call, laid into a box. -/
theorem op_box {H : Heap} {q : Option Addr} {ops : List Op4} (h : Shows H q (ops.flatMap opc)) {i : Nat} {o : Op4} (ho : ops[i]? = some o) : ∃ Hn, (∀ (R : Type) (K : Option Addr → Heap → Option R), (hidx q ops.length (i : Int) 4 fun p48 => ldI .i64 H (pad p48 0) fun n49 => ldI .i64 H (pad p48 1) fun n50 => ldI .i64 H (pad p48 2) fun n51 => ldI .i64 H (pad p48 3) fun n52 => hal H [.int .i64 0, .int .i64 0, .int .i64 0, .int .i64 0] fun p53 H54 => hst H54 p53 [.int .i64 n49, .int .i64 n50, .int .i64 n51, .int .i64 n52] fun H55 => K p53 H55) = K (some ⟨H.length, 0, none⟩) Hn) ∧ Old H.length H Hn ∧ Owns Hn H.length (opc o) 0 ∧ Hn.length = H.length + 1 := by
  obtain ⟨b, f, e0, g0, g1, g2, g3⟩ := op_at h ho
  obtain ⟨H2, hH2⟩ : ∃ H2, H2 = H ++ [some (⟨[.int .i64 o.1, .int .i64 o.2.1, .int .i64 o.2.2.1, .int .i64 o.2.2.2], false, 0⟩ : Blk)] := ⟨_, rfl⟩
  refine ⟨H2, fun R K => ?_, hH2 ▸ Old.app _ _, by rw [hH2]; exact hblk_new H _, by rw [hH2]; simp⟩
  refine (e0 _ _).trans (go_ip g0 (go_ip g1 (go_ip g2 (go_ip g3 (go_halst hH2 rfl rfl rfl)))))
theorem op_cells {H : Heap} {b : Nat} {o : Op4} (h : Owns H b (opc o) 0) : hcell H b 0 = some (.int .i64 o.1) ∧ hcell H b 1 = some (.int .i64 o.2.1) ∧ hcell H b 2 = some (.int .i64 o.2.2.1) ∧ hcell H b 3 = some (.int .i64 o.2.2.2) := ⟨h.sees.cell 0, h.sees.cell 1, h.sees.cell 2, h.sees.cell 3⟩
/-- What a call counts for. -/
def un (o : Op4) : Nat := if (o.1 = 1 ∨ o.1 = 3) ∧ 0 < o.2.2.2 ∧ o.2.2.2 ≤ 65536 then o.2.2.2.toNat else 0
def uns (ops : List Op4) : Nat := (ops.map un).sum
def smallB (w h : Int) (ops : List Op4) : Bool := decide (w ≤ 64 ∧ h ≤ 64 ∧ ops.length ≤ 100 ∧ uns ops ≤ 65536)
theorem take_succ {α : Type} {l : List α} {i : Nat} {x : α} (h : l[i]? = some x) : l.take (i + 1) = l.take i ++ [x] := by rw [List.take_add_one, h]; rfl
theorem uns_take {ops : List Op4} {i : Nat} {o : Op4} (ho : ops[i]? = some o) : uns (ops.take (i + 1)) = uns (ops.take i) + un o := by rw [take_succ ho]; simp [uns]
theorem uns_le (ops : List Op4) (i : Nat) : uns (ops.take i) ≤ uns ops := by
  have h : uns ops = uns (ops.take i) + uns (ops.drop i) := by
    conv => lhs; rw [← List.take_append_drop i ops]
    unfold uns; rw [List.map_append, List.sum_append]
  omega
theorem un_le (o : Op4) : un o ≤ 65536 := by unfold un; split <;> omega
theorem small_l (k : Nat) {ops : List Op4} (c : Nat) {q : Option Addr} (hl : ops.length ≤ 100) : ∀ (m n i : Nat), m < n → ops.length = i + m → ∀ (H : Heap), Shows H q (ops.flatMap opc) → ∃ H', (∀ (R : Type) (KE : Int → Heap → Option R), L_small_l1 k KE n ((uns (ops.take i) : Nat) : Int) q ops.length c ((ops.length : Nat) : Int) (i : Int) H = KE ((uns ops : Nat) : Int) H') ∧ Old H.length H H' := by
  have hu : ∀ l : List Op4, uns l ≤ l.length * 65536 := by
    intro l
    induction l with
    | nil => simp [uns]
    | cons o l ih =>
      have := un_le o
      unfold uns at *
      rw [List.map_cons, List.sum_cons, List.length_cons]; omega
  intro m
  induction m with
  | zero =>
    intro n i hn hi H hS
    obtain ⟨n, rfl⟩ : ∃ n', n = n' + 1 := ⟨n - 1, by omega⟩
    refine ⟨H, fun R KE => ?_, .refl _ _⟩
    unfold L_small_l1 L_small_l1_b
    refine go_f (decide_eq_false (by omega)) ?_
    rw [List.take_of_length_le (by omega)]
  | succ m ih =>
    intro n i hn hi H hS
    obtain ⟨n, rfl⟩ : ∃ n', n = n' + 1 := ⟨n - 1, by omega⟩
    obtain ⟨o, ho⟩ : ∃ o, ops[i]? = some o := ⟨_, List.getElem?_eq_getElem (by omega)⟩
    obtain ⟨H2, e0, o2, O2, _⟩ := op_box hS ho
    obtain ⟨m0, m1, m2, m3⟩ := op_cells O2
    obtain ⟨H', e3, o3⟩ := ih n (i + 1) (by omega) (by omega) H2 (hS.keep o2)
    have hs := uns_take ho
    have hb := hu (ops.take i)
    have hb2 : (ops.take i).length ≤ 100 := by rw [List.length_take]; omega
    have h3 : ∀ (R : Type) (KN : Int → Option Addr → Option Addr → Nat → Nat → Int → Int → Bool → Option R) (nn : Int), L_small_p3 k nn (some ⟨H.length, 0, none⟩) q ops.length c ((ops.length : Nat) : Int) (i : Int) H2 KN = KN nn (some ⟨H.length, 0, none⟩) q ops.length c ((ops.length : Nat) : Int) (i : Int) (decide ((o.1 = 1 ∨ o.1 = 3) ∧ 0 < o.2.2.2 ∧ o.2.2.2 ≤ 65536)) := by
      intro R KN nn
      unfold L_small_p3 L_small_p3_b
      have tail : (o.1 = 1 ∨ o.1 = 3) → (hfad 3 (some ⟨H.length, 0, none⟩) fun p65 => ldI .i64 H2 p65 fun n66 => bif decide (n66 > 0) then (hfad 3 (some ⟨H.length, 0, none⟩) fun p67 => ldI .i64 H2 p67 fun n68 => KN nn (some ⟨H.length, 0, none⟩) q ops.length c ((ops.length : Nat) : Int) (i : Int) (decide (n68 ≤ 65536))) else (KN nn (some ⟨H.length, 0, none⟩) q ops.length c ((ops.length : Nat) : Int) (i : Int) false)) = KN nn (some ⟨H.length, 0, none⟩) q ops.length c ((ops.length : Nat) : Int) (i : Int) (decide ((o.1 = 1 ∨ o.1 = 3) ∧ 0 < o.2.2.2 ∧ o.2.2.2 ≤ 65536)) := by
        intro hk
        refine go_fad (go_i m3 ?_)
        by_cases c1 : o.2.2.2 > 0
        · refine go_t (decide_eq_true c1) (go_fad (go_i m3 ?_))
          congr 1
          exact decide_eq_decide.2 ⟨fun h => ⟨hk, c1, h⟩, fun h => h.2.2⟩
        · refine go_f (decide_eq_false c1) ?_
          rw [decide_eq_false (fun h => c1 h.2.1)]
      refine go_fad (go_i m0 ?_)
      by_cases c1 : o.1 = 1
      · exact go_t (by rw [c1]; rfl) (tail (.inl c1))
      · refine go_f (by rw [beq_eq_false_iff_ne]; exact c1) (go_fad (go_i m0 ?_))
        by_cases c3 : o.1 = 3
        · exact go_t (by rw [c3]; rfl) (tail (.inr c3))
        · refine go_f (by rw [beq_eq_false_iff_ne]; exact c3) ?_
          rw [decide_eq_false (fun h => by rcases h.1 with h | h <;> contradiction)]
    refine ⟨H', fun R KE => ?_, o2.trans (o3.mono o2.1)⟩
    unfold L_small_l1 L_small_l1_b L_small_p2 L_small_p2_b
    refine go_t (decide_eq_true (by omega)) ((e0 _ _).trans ((h3 _ _ _).trans ?_))
    by_cases hc : (o.1 = 1 ∨ o.1 = 3) ∧ 0 < o.2.2.2 ∧ o.2.2.2 ≤ 65536
    · have hun : ((un o : Nat) : Int) = o.2.2.2 := by unfold un; rw [if_pos hc]; omega
      refine go_t (decide_eq_true hc) (go_fad (go_i m3 ?_))
      dsimp only
      rw [w64 (n := (i : Int) + 1) (by omega) (by omega), w64 (n := ((uns (ops.take i) : Nat) : Int) + o.2.2.2) (by omega) (by omega), ← hun, ← Int.natCast_add, ← hs]
      exact e3 _ _
    · have hun : un o = 0 := by unfold un; rw [if_neg hc]
      refine go_f (decide_eq_false hc) ?_
      dsimp only
      rw [w64 (n := (i : Int) + 1) (by omega) (by omega)]
      have hs' : uns (ops.take i) = uns (ops.take (i + 1)) := by omega
      rw [hs']
      exact e3 _ _
theorem small_eq {k : Nat} (hk : 1000 < k) {ops : List Op4} (c : Nat) {q : Option Addr} {H : Heap} (hS : Shows H q (ops.flatMap opc)) (w h : Int) : ∃ H', (∀ (R : Type) (K : Bool → Heap → Option R), L_small k w h q ops.length c H K = K (smallB w h ops) H') ∧ Old H.length H H' := by
  unfold smallB
  by_cases c1 : w ≤ 64
  case neg =>
    refine ⟨H, fun R K => ?_, .refl _ _⟩
    unfold L_small L_small_b L_small_p0 L_small_p0_b
    refine go_t (decide_eq_true (by omega)) ?_
    rw [decide_eq_false (fun h => c1 h.1)]
  by_cases c2 : h ≤ 64
  case neg =>
    refine ⟨H, fun R K => ?_, .refl _ _⟩
    unfold L_small L_small_b L_small_p0 L_small_p0_b
    refine go_f (decide_eq_false (by omega)) (go_t (decide_eq_true (by omega)) ?_)
    rw [decide_eq_false (fun h => c2 h.2.1)]
  by_cases c3 : ops.length ≤ 100
  case neg =>
    refine ⟨H, fun R K => ?_, .refl _ _⟩
    unfold L_small L_small_b L_small_p0 L_small_p0_b
    refine go_f (decide_eq_false (by omega)) (go_f (decide_eq_false (by omega)) (go_t (decide_eq_true (by omega)) ?_))
    rw [decide_eq_false (fun h => c3 h.2.2.1)]
  obtain ⟨H', e, o⟩ := small_l k c c3 ops.length k 0 (by omega) (by omega) H hS
  refine ⟨H', fun R K => ?_, o⟩
  unfold L_small L_small_b L_small_p0 L_small_p0_b
  refine go_f (decide_eq_false (by omega)) (go_f (decide_eq_false (by omega)) (go_f (decide_eq_false (by omega)) ?_))
  refine (e R (fun n107 H108 => K (decide (n107 ≤ 65536)) H108)).trans ?_
  congr 1
  exact decide_eq_decide.2 ⟨fun h => ⟨c1, c2, c3, by omega⟩, fun h => by omega⟩
theorem small_of {w h : Int} {ops : List Op4} (hh : smallB w h ops = true) : w ≤ 64 ∧ h ≤ 64 ∧ ops.length ≤ 100 ∧ uns ops ≤ 65536 := of_decide_eq_true hh
end Go.Proofs.Ytblkejnciinaeaa.Sh
