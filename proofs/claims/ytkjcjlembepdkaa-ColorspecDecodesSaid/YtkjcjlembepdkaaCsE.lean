/- Colorspec: the program's validate and Check. -/
import Derived.Test.YtkjcjlembepdkaaSh1
import Derived.Test.YtkjcjlembepdkaaSh4
import Derived.Test.YtkjcjlembepdkaaCsD
set_option linter.unusedVariables false
set_option linter.unusedSimpArgs false
namespace Go.Proofs.Ytkjcjlembepdkaa.Sh
open Go.Proofs.Ytkjcjlembepdkaa.FW
def okR (n : Nat) (r : Rw) : Bool := decide (r.2.2.length = n) && inB 0 255 r.2.2
def okP (n : Nat) (rows : List Rw) : Bool := rows.all (okR n)
def depB (n : Nat) : Bool := decide (n = 0) || dep n != 0
def validI (s : Int) (rs : List Int) (rows : List Rw) : Int := if kn s then (if rolesB s rs && depB rows.length && okP rs.length rows then 0 else 21) else 3
/-- What bounds a color specification that came in. -/
structure FewC (rs : List Int) (rows : List Rw) : Prop where
  a : rs.length ≤ 1000
  b : rows.length ≤ 70000
  c : ∀ r ∈ rows, r.2.2.length ≤ 1000
theorem rows_l (k : Nat) (hk : 1000 < k) {b : Nat} {n0 : Nat} {H : Heap} {q : Option Addr} {rows : List Rw} (c : Nat) (h : PalS H q rows) (hl : rows.length ≤ 70000) (hr : ∀ r ∈ rows, r.2.2.length ≤ 1000) {qr : Option Addr} {cr : Nat} (m1 : hcell H b 1 = some (.slice qr n0 cr)) : ∀ (m n i : Nat), m < n → rows.length = i + m → ∀ (R : Type) (KE : Unit → Option R) (KR : Int → Option R),
    colorspec_validate_l1 k KE KR n (some ⟨b, 0, none⟩) q rows.length c ((rows.length : Nat) : Int) (i : Int) H = bif okP n0 (rows.drop i) then KE () else KR 21 := by
  intro m
  induction m with
  | zero =>
    intro n i hn hj R KE KR
    obtain ⟨n, rfl⟩ : ∃ n', n = n' + 1 := ⟨n - 1, by omega⟩
    unfold colorspec_validate_l1 colorspec_validate_l1_b
    rw [List.drop_eq_nil_of_le (by omega)]
    exact go_f (decide_eq_false (by omega)) rfl
  | succ m ih =>
    intro n i hn hj R KE KR
    obtain ⟨n, rfl⟩ : ∃ n', n = n' + 1 := ⟨n - 1, by omega⟩
    obtain ⟨r, hx⟩ := ex_get (l := rows) (i := i) (by omega)
    obtain ⟨p, e1, e2⟩ := row_at h hx
    have hm : r ∈ rows := List.mem_of_getElem? hx
    have hrl := hr r hm
    have wi := within_eq (k := k) 0 255 r.2.1 (h.rw r hm) (by omega) (by omega)
    rw [drop_cons hx]
    unfold colorspec_validate_l1 colorspec_validate_l1_b colorspec_validate_p2 colorspec_validate_p2_b
    refine go_t (decide_eq_true (by omega)) ((e1 _ _).trans ((e2 _ _).trans (go_fad (go_l m1 ?_))))
    show _ = bif ((decide (r.2.2.length = n0) && inB 0 255 r.2.2) && okP n0 (rows.drop (i + 1))) then _ else _
    by_cases h1 : r.2.2.length = n0
    · refine go_f (by rw [h1]; exact bne_self_eq_false' _) ((wi _ _).trans ?_)
      rw [decide_eq_true h1, Bool.true_and]
      cases h2 : inB 0 255 r.2.2 with
      | false => exact go_t rfl rfl
      | true =>
        refine go_f rfl ?_
        rw [Bool.true_and]
        dsimp only
        rw [w64 (n := (i : Int) + 1) (by omega) (by omega)]
        exact ih n (i + 1) (by omega) (by omega) R KE KR
    · rw [decide_eq_false h1]
      exact go_t (by rw [bne_iff_ne]; omega) rfl
theorem validate_eq {k : Nat} (hk : 80000 < k) {H : Heap} {q q2 : Option Addr} {rs : List Int} {rows : List Rw} (s : Int) (c c2 : Nat) (h : Shows H q (ints rs)) (hp : PalS H q2 rows) (F : FewC rs rows) :
    ∃ H', (∀ (R : Type) (K : Int → Heap → Option R), colorspec_validate k s q rs.length c q2 rows.length c2 H K = K (validI s rs rows) H') ∧ Old H.length H H' := by
  have fb := F.b
  obtain ⟨H1, hH1⟩ : ∃ H1, H1 = H ++ [some (⟨[.int .i64 s, .slice q rs.length c, .slice q2 rows.length c2], false, 0⟩ : Blk)] := ⟨_, rfl⟩
  have o1 : Old H.length H H1 := hH1 ▸ Old.app _ _
  have O1 : Owns H1 H.length [.int .i64 s, .slice q rs.length c, .slice q2 rows.length c2] 0 := by rw [hH1]; exact hblk_new H _
  have l1 : H1.length = H.length + 1 := by rw [hH1]; simp
  have m0 : hcell H1 H.length 0 = some (.int .i64 s) := O1.sees.cell 0
  have m1 : hcell H1 H.length 1 = some (.slice q rs.length c) := O1.sees.cell 1
  have m2 : hcell H1 H.length 2 = some (.slice q2 rows.length c2) := O1.sees.cell 2
  cases hkn : kn s with
  | false =>
    refine ⟨H1, fun R K => ?_, o1⟩
    rw [show validI s rs rows = 3 from by unfold validI; rw [hkn]; rfl]
    unfold colorspec_validate colorspec_validate_b
    exact go_halN hH1 (go_fad (go_i m0 ((known_eq _ _ _).trans (by rw [hkn]; exact go_t rfl rfl))))
  | true =>
    have e0 : validI s rs rows = if rolesB s rs && depB rows.length && okP rs.length rows then 0 else 21 := by unfold validI; rw [hkn]; rfl
    rw [e0]
    obtain ⟨H2, e2, o2⟩ := roles_eq (k := k) (by omega) s c rows.length c2 (h.keep o1) (by have := F.a; omega) (q2 := q2)
    have O2 := O1.old o2 (by omega)
    have a1 : hcell H2 H.length 1 = some (.slice q rs.length c) := O2.sees.cell 1
    have a2 : hcell H2 H.length 2 = some (.slice q2 rows.length c2) := O2.sees.cell 2
    have oo : Old H.length H H2 := o1.trans (o2.mono (by omega))
    have rl := rows_l k (by omega) (n0 := rs.length) c2 (hp.keep oo) (by omega) F.c a1 rows.length k 0 (by omega) (by omega)
    rw [List.drop_zero] at rl
    have start : ∀ (R : Type) (K : Int → Heap → Option R) (r : Option R), (bif (!rolesB s rs) then K 21 H2 else hfad 2 (some ⟨H.length, 0, none⟩) fun p11 => ldL H2 p11 fun q12 l13 c14 => bif decide (((l13 : Nat) : Int) > 0) then (hfad 2 (some ⟨H.length, 0, none⟩) fun p15 => ldL H2 p15 fun q16 l17 c18 => colorspec_depth k q16 l17 c18 fun n19 => bif (n19 == 0) then K 21 H2 else (hfad 2 (some ⟨H.length, 0, none⟩) fun p17 => ldL H2 p17 fun q18 l19 c20 => colorspec_validate_l1 k (fun (_ : Unit) => K 0 H2) (fun n22 => K n22 H2) k (some ⟨H.length, 0, none⟩) q18 l19 c20 ((l19 : Nat) : Int) 0 H2)) else (hfad 2 (some ⟨H.length, 0, none⟩) fun p17 => ldL H2 p17 fun q18 l19 c20 => colorspec_validate_l1 k (fun (_ : Unit) => K 0 H2) (fun n22 => K n22 H2) k (some ⟨H.length, 0, none⟩) q18 l19 c20 ((l19 : Nat) : Int) 0 H2)) = r → colorspec_validate k s q rs.length c q2 rows.length c2 H K = r := by
      intro R K r hr
      unfold colorspec_validate colorspec_validate_b colorspec_validate_p0 colorspec_validate_p0_b
      refine go_halN hH1 (go_fad (go_i m0 ((known_eq _ _ _).trans ?_)))
      rw [hkn]
      exact go_f rfl (go_ip m0 (go_lp m1 (go_lp m2 ((e2 _ _).trans hr))))
    have fin : ∀ (R : Type) (K : Int → Heap → Option R), (hfad 2 (some ⟨H.length, 0, none⟩) fun p17 => ldL H2 p17 fun q18 l19 c20 => colorspec_validate_l1 k (fun (_ : Unit) => K 0 H2) (fun n22 => K n22 H2) k (some ⟨H.length, 0, none⟩) q18 l19 c20 ((l19 : Nat) : Int) 0 H2) = K (if okP rs.length rows then 0 else 21) H2 := by
      intro R K
      refine go_fad (go_l a2 ((rl _ _ _).trans ?_))
      cases okP rs.length rows <;> rfl
    refine ⟨H2, fun R K => start R K _ ?_, oo⟩
    cases hro : rolesB s rs with
    | false => exact go_t rfl rfl
    | true =>
      refine go_f rfl (go_fad (go_l a2 ?_))
      rw [Bool.true_and]
      by_cases hz : rows.length = 0
      · refine go_f (decide_eq_false (by omega)) ((fin R K).trans ?_)
        rw [show depB rows.length = true from by unfold depB; rw [decide_eq_true hz]; rfl, Bool.true_and]
      · refine go_t (decide_eq_true (by omega)) (go_fad (go_l a2 ((depth_eq (by omega) _ _ _ _ _).trans ?_)))
        by_cases hd : dep rows.length = 0
        · rw [show depB rows.length = false from by unfold depB; rw [decide_eq_false hz, hd]; rfl]
          exact go_t (by rw [hd]; rfl) rfl
        · rw [show depB rows.length = true from by unfold depB; rw [Bool.or_eq_true]; exact .inr (by rw [bne_iff_ne]; exact hd), Bool.true_and]
          exact go_f (by rw [beq_eq_false_iff_ne]; exact hd) (fin R K)
/-- Components, as cells. -/
abbrev Cm := Int × Bool × Int × Int
def cmc (c : Cm) : List Value := [.int .i64 c.1, .bool c.2.1, .int .i64 c.2.2.1, .int .i64 c.2.2.2]
def checkI (s : Int) (rs : List Int) (rows : List Rw) (cs : List Cm) : Int :=
  if validI s rs rows ≠ 0 then validI s rs rows else if rows.length = 0 then (if cs.length = rs.length then 0 else 21) else match cs with
    | [c] => if c.2.1 = true ∨ c.1 ≠ dep rows.length then 21 else 0
    | _ => 21
/-- A header's cells. -/
def hd6 (n1 n2 n3 n4 n5 n6 : Int) (q : Option Addr) (l c : Nat) : List Value := [.int .i64 n1, .int .i64 n2, .int .i64 n3, .int .i64 n4, .int .i64 n5, .int .i64 n6, .slice q l c]
theorem one_at {H : Heap} {q : Option Addr} {c : Cm} (h : Shows H q ([c].flatMap cmc)) : ∃ b o, (∀ (R : Type) (K : Option Addr → Option R), hidx q 1 0 4 K = K (some ⟨b, o, none⟩)) ∧ hcell H b (o + 0) = some (.int .i64 c.1) ∧ hcell H b (o + 1) = some (.bool c.2.1) ∧ hcell H b (o + 2) = some (.int .i64 c.2.2.1) ∧ hcell H b (o + 3) = some (.int .i64 c.2.2.2) := by
  rcases h with h | ⟨b, o, full, rfl, hs, h1, h2⟩
  · simp [cmc] at h
  · refine ⟨b, o, fun R K => ?_, ?_, ?_, ?_, ?_⟩
    · simp only [hidx]; rw [if_pos ⟨by omega, by omega⟩]; simp
    all_goals
      rw [hs.cell]
      have h3 := fun j (hj : j < 4) => congrArg (fun l => l[j]?) h2
      simp only [List.getElem?_take, List.getElem?_drop] at h3
      first
        | exact (by simpa [cmc] using h3 0 (by omega))
        | exact (by simpa [cmc] using h3 1 (by omega))
        | exact (by simpa [cmc] using h3 2 (by omega))
        | exact (by simpa [cmc] using h3 3 (by omega))
theorem check_eq {k : Nat} (hk : 80000 < k) {H : Heap} {q q2 q3 : Option Addr} {rs : List Int} {rows : List Rw} {cs : List Cm} (s : Int) (c c2 : Nat) (n1 n2 n3 n4 n5 n6 : Int) (c3 : Nat) (h : Shows H q (ints rs)) (hp : PalS H q2 rows) (hc : Shows H q3 (cs.flatMap cmc)) (F : FewC rs rows) :
    ∃ H', (∀ (R : Type) (K : Int → Heap → Option R), colorspec_Check k s q rs.length c q2 rows.length c2 n1 n2 n3 n4 n5 n6 q3 cs.length c3 H K = K (checkI s rs rows cs) H') ∧ Old H.length H H' := by
  have fb := F.b
  obtain ⟨H1, hH1⟩ : ∃ H1, H1 = H ++ [some (⟨[.int .i64 s, .slice q rs.length c, .slice q2 rows.length c2], false, 0⟩ : Blk)] := ⟨_, rfl⟩
  have o1 : Old H.length H H1 := hH1 ▸ Old.app _ _
  have O1 : Owns H1 H.length [.int .i64 s, .slice q rs.length c, .slice q2 rows.length c2] 0 := by rw [hH1]; exact hblk_new H _
  have l1 : H1.length = H.length + 1 := by rw [hH1]; simp
  obtain ⟨H2, hH2⟩ : ∃ H2, H2 = H1 ++ [some (⟨[.int .i64 n1, .int .i64 n2, .int .i64 n3, .int .i64 n4, .int .i64 n5, .int .i64 n6, .slice q3 cs.length c3], false, 0⟩ : Blk)] := ⟨_, rfl⟩
  have o2 : Old H1.length H1 H2 := hH2 ▸ Old.app _ _
  have O2 : Owns H2 H1.length [.int .i64 n1, .int .i64 n2, .int .i64 n3, .int .i64 n4, .int .i64 n5, .int .i64 n6, .slice q3 cs.length c3] 0 := by rw [hH2]; exact hblk_new H1 _
  have l2 : H2.length = H1.length + 1 := by rw [hH2]; simp
  have Oc2 := O1.old o2 (by omega)
  have m0 : hcell H2 H.length 0 = some (.int .i64 s) := Oc2.sees.cell 0
  have m1 : hcell H2 H.length 1 = some (.slice q rs.length c) := Oc2.sees.cell 1
  have m2 : hcell H2 H.length 2 = some (.slice q2 rows.length c2) := Oc2.sees.cell 2
  have o12 := o1.trans (o2.mono (by omega))
  obtain ⟨H3, e3, o3⟩ := validate_eq (k := k) hk s c c2 (h.keep o12) (hp.keep o12) F
  have oo := o12.trans (o3.mono (by omega))
  have Oc3 := Oc2.old o3 (by omega)
  have Oh3 := O2.old o3 (by omega)
  have a1 : hcell H3 H.length 1 = some (.slice q rs.length c) := Oc3.sees.cell 1
  have a2 : hcell H3 H.length 2 = some (.slice q2 rows.length c2) := Oc3.sees.cell 2
  have h6 : hcell H3 H1.length 6 = some (.slice q3 cs.length c3) := Oh3.sees.cell 6
  refine ⟨H3, fun R K => ?_, oo⟩
  unfold colorspec_Check colorspec_Check_b
  refine go_halN hH1 (go_halN hH2 (go_ip m0 (go_lp m1 (go_lp m2 ((e3 _ _).trans ?_)))))
  unfold checkI
  by_cases hv : validI s rs rows = 0
  case neg => rw [if_pos hv]; exact go_t (by rw [bne_iff_ne]; exact hv) rfl
  rw [if_neg (by simp [hv])]
  refine go_f (by rw [hv]; rfl) (go_fad (go_l a2 ?_))
  by_cases hz : rows.length = 0
  · rw [if_pos hz]
    refine go_t (by rw [hz]; rfl) (go_fad (go_l h6 (go_fad (go_l a1 ?_))))
    by_cases hcl : cs.length = rs.length
    · rw [if_pos hcl]; exact go_f (by rw [hcl]; exact bne_self_eq_false' _) rfl
    · rw [if_neg hcl]; exact go_t (by rw [bne_iff_ne]; omega) rfl
  · rw [if_neg hz]
    refine go_f (by rw [beq_eq_false_iff_ne]; omega) (go_fad (go_l h6 ?_))
    match cs, hc, h6 with
    | [], _, _ => exact go_t rfl rfl
    | [x], hc, h6 =>
      obtain ⟨b, o, e4, x0, x1, _, _⟩ := one_at (hc.keep oo)
      show _ = K (if x.2.1 = true ∨ x.1 ≠ dep rows.length then 21 else 0) H3
      refine go_f rfl (go_fad (go_l h6 ((e4 _ _).trans (go_fad (go_b x1 ?_)))))
      by_cases hs : x.2.1 = true
      · rw [if_pos (.inl hs)]; exact go_t hs rfl
      · refine go_f (by simpa using hs) (go_fad (go_l h6 ((e4 _ _).trans (go_fad (go_i x0 (go_fad (go_l a2 ((depth_eq (by omega) _ _ _ _ _).trans ?_))))))))
        by_cases hd : x.1 = dep rows.length
        · rw [if_neg (by simp [hs, hd])]; exact go_f (by rw [hd]; exact bne_self_eq_false' _) rfl
        · rw [if_pos (.inr hd)]; exact go_t (by rw [bne_iff_ne]; exact hd) rfl
    | _ :: _ :: l, _, _ => exact go_t (by rw [bne_iff_ne]; simp; omega) rfl
end Go.Proofs.Ytkjcjlembepdkaa.Sh
