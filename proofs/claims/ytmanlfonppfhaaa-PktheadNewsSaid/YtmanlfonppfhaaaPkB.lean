/- Pkthead: the program's New. -/
import Derived.Test.YtmanlfonppfhaaaSh1
import Derived.Test.YtmanlfonppfhaaaPkA
set_option linter.unusedVariables false
set_option linter.unusedSimpArgs false
namespace Go.Proofs.Ytmanlfonppfhaaa.Sh
open Go.Proofs.Ytmanlfonppfhaaa.FW Go.IntWalk
def pt (g : Int × Int) : List Value := [.int .i64 g.1, .int .i64 g.2]
theorem pt_len (l : List (Int × Int)) : (l.flatMap pt).length = l.length * 2 := by
  induction l with
  | nil => rfl
  | cons x l ih => rw [List.flatMap_cons, List.length_append, ih, List.length_cons]; show 2 + _ = _; omega
theorem pt_at {H : Heap} {q : Option Addr} {l : List (Int × Int)} (h : Shows H q (l.flatMap pt)) {i : Nat} {g : Int × Int} (hi : l[i]? = some g) :
    ∃ b o, (∀ (R : Type) (K : Option Addr → Option R), hidx q l.length (i : Int) 2 K = K (some ⟨b, o, none⟩)) ∧ hcell H b (o + 0) = some (.int .i64 g.1) ∧ hcell H b (o + 1) = some (.int .i64 g.2) := by
  obtain ⟨b, o, e, m⟩ := el_at (f := pt) (sz := 2) (fun _ => rfl) (by omega) h (pt_len l) hi
  exact ⟨b, o, e, m 0 (by omega), m 1 (by omega)⟩
abbrev Gd := (Int × Int) × Int
def okG (g : Int × Int) : Bool := decide (g.1 = 0 ∧ g.2 = 0) || decide (1 ≤ g.1 ∧ g.1 ≤ 4096 ∧ 1 ≤ g.2 ∧ g.2 ≤ 4096)
def okZ (z : Gd) : Bool := okG z.1 && decide (0 ≤ z.2 ∧ z.2 ≤ 60)
def sumZ (zs : List Gd) : Int := (zs.map fun z => z.1.1 * z.1.2).sum
theorem okG_mul {g : Int × Int} (h : okG g = true) : 0 ≤ g.1 * g.2 ∧ g.1 * g.2 ≤ 16777216 ∧ 0 ≤ g.1 ∧ 0 ≤ g.2 := by
  unfold okG at h
  simp only [Bool.or_eq_true, decide_eq_true_eq] at h
  rcases h with ⟨h1, h2⟩ | ⟨h1, h2, h3, h4⟩
  · rw [h1, h2]; decide
  · obtain ⟨a, ha⟩ : ∃ a : Nat, g.1 = a := ⟨g.1.toNat, by omega⟩
    obtain ⟨b, hb⟩ : ∃ b : Nat, g.2 = b := ⟨g.2.toNat, by omega⟩
    rw [ha, hb]
    have : a * b ≤ 4096 * 4096 := Nat.mul_le_mul (by omega) (by omega)
    rw [← Int.natCast_mul]; omega
theorem np2_eq {k : Nat} {H : Heap} {b : Nat} {x y : Int} (m0 : hcell H b 0 = some (.int .i64 x)) (m1 : hcell H b 1 = some (.int .i64 y)) (q1 : Option Addr) (l2 c3 : Nat) (q4 : Option Addr) (l5 c6 : Nat) (p7 : Option Addr) (n8 n9 : Int) (q11 : Option Addr) (l12 c13 : Nat) (n14 n15 : Int) (R : Type) (K : Option Addr → Nat → Nat → Option Addr → Nat → Nat → Option Addr → Int → Int → Option Addr → Bool → Option Addr → Nat → Nat → Int → Int → Option R) :
    pkthead_New_p2 k q1 l2 c3 q4 l5 c6 p7 n8 n9 (some ⟨b, 0, none⟩) q11 l12 c13 n14 n15 H K = K q1 l2 c3 q4 l5 c6 p7 n8 n9 (some ⟨b, 0, none⟩) (decide (x = 0 ∧ y = 0)) q11 l12 c13 n14 n15 := by
  unfold pkthead_New_p2 pkthead_New_p2_b
  refine go_fad (go_i m0 ?_)
  by_cases hx : x = 0
  · refine go_t (beq_iff_eq.2 hx) (go_fad (go_i m1 ?_))
    rw [show decide (x = 0 ∧ y = 0) = (y == 0) from by simp [hx]; rfl]
  · rw [show decide (x = 0 ∧ y = 0) = false from decide_eq_false (fun h => hx h.1)]
    exact go_f (beq_eq_false_iff_ne.2 hx) rfl
theorem np3_eq {k : Nat} {H : Heap} {b : Nat} {x y : Int} (m0 : hcell H b 0 = some (.int .i64 x)) (m1 : hcell H b 1 = some (.int .i64 y)) (q1 : Option Addr) (l2 c3 : Nat) (q4 : Option Addr) (l5 c6 : Nat) (p7 : Option Addr) (n8 n9 : Int) (t : Bool) (q11 : Option Addr) (l12 c13 : Nat) (n14 n15 : Int) (R : Type) (K : Option Addr → Nat → Nat → Option Addr → Nat → Nat → Option Addr → Int → Int → Option Addr → Bool → Bool → Option Addr → Nat → Nat → Int → Int → Option R) :
    pkthead_New_p3 k q1 l2 c3 q4 l5 c6 p7 n8 n9 (some ⟨b, 0, none⟩) t q11 l12 c13 n14 n15 H K = K q1 l2 c3 q4 l5 c6 p7 n8 n9 (some ⟨b, 0, none⟩) t (decide (1 ≤ x ∧ x ≤ 4096 ∧ 1 ≤ y ∧ y ≤ 4096)) q11 l12 c13 n14 n15 := by
  unfold pkthead_New_p3 pkthead_New_p3_b
  refine go_fad (go_i m0 ?_)
  by_cases h1 : x ≥ 1
  · refine go_t (decide_eq_true h1) (go_fad (go_i m0 ?_))
    by_cases h2 : x ≤ 4096
    · refine go_t (decide_eq_true h2) (go_fad (go_i m1 ?_))
      by_cases h3 : y ≥ 1
      · refine go_t (decide_eq_true h3) (go_fad (go_i m1 ?_))
        by_cases h4 : y ≤ 4096
        · rw [decide_eq_true h4, decide_eq_true (show 1 ≤ x ∧ x ≤ 4096 ∧ 1 ≤ y ∧ y ≤ 4096 from ⟨h1, h2, h3, h4⟩)]
        · rw [decide_eq_false h4, decide_eq_false (show ¬ (1 ≤ x ∧ x ≤ 4096 ∧ 1 ≤ y ∧ y ≤ 4096) from fun h => h4 h.2.2.2)]
      · rw [decide_eq_false (show ¬ (1 ≤ x ∧ x ≤ 4096 ∧ 1 ≤ y ∧ y ≤ 4096) from fun h => h3 h.2.2.1)]
        exact go_f (decide_eq_false h3) rfl
    · rw [decide_eq_false (show ¬ (1 ≤ x ∧ x ≤ 4096 ∧ 1 ≤ y ∧ y ≤ 4096) from fun h => h2 h.2.1)]
      exact go_f (decide_eq_false h2) rfl
  · rw [decide_eq_false (show ¬ (1 ≤ x ∧ x ≤ 4096 ∧ 1 ≤ y ∧ y ≤ 4096) from fun h => h1 h.1)]
    exact go_f (decide_eq_false h1) rfl
theorem np4_eq {k : Nat} {H : Heap} {qp pv : Option Addr} {lp cp : Nat} {i v : Int} (ep : ∀ (R : Type) (K : Option Addr → Option R), hidx qp lp i 1 K = K pv) (ev : ∀ (R : Type) (K : Int → Option R), ldI .i64 H pv K = K v) (q1 : Option Addr) (l2 c3 : Nat) (p7 : Option Addr) (n8 : Int) (p10 : Option Addr) (t1 t2 : Bool) (q11 : Option Addr) (l12 c13 : Nat) (n14 n15 : Int) (R : Type) (K : Option Addr → Nat → Nat → Option Addr → Nat → Nat → Option Addr → Int → Option Addr → Option Addr → Nat → Nat → Int → Int → Option R) (KR : Option Addr → Int → Option R) :
    pkthead_New_p4 k q1 l2 c3 qp lp cp p7 n8 i p10 t1 t2 q11 l12 c13 n14 n15 H K KR = bif (t1 || t2) && decide (0 ≤ v ∧ v ≤ 60) then K q1 l2 c3 qp lp cp p7 n8 p10 q11 l12 c13 n14 n15 else KR none 2 := by
  unfold pkthead_New_p4 pkthead_New_p4_b
  have key : ∀ (A : Option R), (hidx qp lp i 1 fun p18 => ldI .i64 H p18 fun n19 => bif decide (n19 < 0) then (KR none 2) else (hidx qp lp i 1 fun p20 => ldI .i64 H p20 fun n21 => bif decide (n21 > 60) then (KR none 2) else A)) = bif decide (0 ≤ v ∧ v ≤ 60) then A else KR none 2 := fun A => by
    refine (ep _ _).trans ((ev _ _).trans ?_)
    by_cases h1 : v < 0
    · rw [decide_eq_false (show ¬ (0 ≤ v ∧ v ≤ 60) from fun h => by omega)]
      exact go_t (decide_eq_true h1) rfl
    refine go_f (decide_eq_false h1) ((ep _ _).trans ((ev _ _).trans ?_))
    by_cases h2 : v > 60
    · rw [decide_eq_false (show ¬ (0 ≤ v ∧ v ≤ 60) from fun h => by omega)]
      exact go_t (decide_eq_true h2) rfl
    · rw [decide_eq_true (show 0 ≤ v ∧ v ≤ 60 from by omega)]
      exact go_f (decide_eq_false h2) rfl
  cases t1 with
  | true => exact key _
  | false =>
    cases t2 with
    | true => exact key _
    | false => rfl
theorem nl1 (k : Nat) {qg qp : Option Addr} {cg cp : Nat} {zs : List Gd} (hl : zs.length ≤ 3) (pm : Option Addr) : ∀ (m n i : Nat) (t : Int), m < n → zs.length = i + m → 0 ≤ t → t ≤ i * 16777216 → ∀ (H : Heap), Shows H qg ((zs.map Prod.fst).flatMap pt) → Shows H qp (ints (zs.map Prod.snd)) →
    ∃ H', (∀ (R : Type) (KE : Option Addr → Nat → Nat → Option Addr → Nat → Nat → Option Addr → Int → Heap → Option R) (KR : Option Addr → Int → Heap → Option R), pkthead_New_l1 k KE KR n qg zs.length cg qp zs.length cp pm t qg zs.length cg ((zs.length : Nat) : Int) (i : Int) H = bif (zs.drop i).all okZ then KE qg zs.length cg qp zs.length cp pm (t + sumZ (zs.drop i)) H' else KR none 2 H') ∧ Old H.length H H' := by
  intro m
  induction m with
  | zero =>
    intro n i t hn hj t0 t1 H hg hp
    obtain ⟨n, rfl⟩ : ∃ n', n = n' + 1 := ⟨n - 1, by omega⟩
    refine ⟨H, fun R KE KR => ?_, .refl _ _⟩
    unfold pkthead_New_l1 pkthead_New_l1_b
    rw [List.drop_eq_nil_of_le (by omega)]
    exact go_f (decide_eq_false (by omega)) (by rw [show t + sumZ [] = t from by simp [sumZ]]; rfl)
  | succ m ih =>
    intro n i t hn hj t0 t1 H hg hp
    obtain ⟨n, rfl⟩ : ∃ n', n = n' + 1 := ⟨n - 1, by omega⟩
    obtain ⟨z, hz⟩ := ex_get (l := zs) (i := i) (by omega)
    obtain ⟨bb, oo, e1, m0, m1⟩ := pt_at hg (i := i) (g := z.1) (by rw [List.getElem?_map, hz]; rfl)
    rw [List.length_map] at e1
    obtain ⟨H1, hH1⟩ : ∃ H1, H1 = H ++ [some (⟨[.int .i64 z.1.1, .int .i64 z.1.2], false, 0⟩ : Blk)] := ⟨_, rfl⟩
    have o1 : Old H.length H H1 := hH1 ▸ Old.app _ _
    have O1 : Owns H1 H.length [.int .i64 z.1.1, .int .i64 z.1.2] 0 := by rw [hH1]; exact hblk_new H _
    have x0 : hcell H1 H.length 0 = some (.int .i64 z.1.1) := O1.sees.cell 0
    have x1 : hcell H1 H.length 1 = some (.int .i64 z.1.2) := O1.sees.cell 1
    obtain ⟨pv, ep, ev⟩ := int_at (hp.keep o1) (i := i) (x := z.2) (by rw [List.getElem?_map, hz]; rfl)
    rw [List.length_map] at ep
    have hd : (zs.drop i).all okZ = (okZ z && (zs.drop (i + 1)).all okZ) := by rw [drop_cons hz, List.all_cons]
    have hoz : okZ z = ((decide (z.1.1 = 0 ∧ z.1.2 = 0) || decide (1 ≤ z.1.1 ∧ z.1.1 ≤ 4096 ∧ 1 ≤ z.1.2 ∧ z.1.2 ≤ 4096)) && decide (0 ≤ z.2 ∧ z.2 ≤ 60)) := rfl
    have front : ∀ (R : Type) (KE : Option Addr → Nat → Nat → Option Addr → Nat → Nat → Option Addr → Int → Heap → Option R) (KR : Option Addr → Int → Heap → Option R), pkthead_New_l1 k KE KR (n + 1) qg zs.length cg qp zs.length cp pm t qg zs.length cg ((zs.length : Nat) : Int) (i : Int) H = bif okZ z then pkthead_New_l1 k KE KR n qg zs.length cg qp zs.length cp pm (IntKind.wrap .i64 (t + (IntKind.wrap .i64 (z.1.1 * z.1.2)))) qg zs.length cg ((zs.length : Nat) : Int) (IntKind.wrap .i64 ((i : Int) + 1)) H1 else KR none 2 H1 := fun R KE KR => by
      rw [pkthead_New_l1]
      unfold pkthead_New_l1_b
      refine go_t (decide_eq_true (by omega)) ((e1 _ _).trans (go_ip m0 (go_ip m1 (go_halst hH1 rfl rfl ?_))))
      refine (np2_eq x0 x1 _ _ _ _ _ _ _ _ _ _ _ _ _ _ _ _).trans ((np3_eq x0 x1 _ _ _ _ _ _ _ _ _ _ _ _ _ _ _ _ _).trans ((np4_eq ep ev _ _ _ _ _ _ _ _ _ _ _ _ _ _ _ _).trans ?_))
      rw [← hoz]
      cases okZ z with
      | false => rfl
      | true => exact go_t rfl (go_fad (go_i x0 (go_fad (go_i x1 rfl))))
    cases hk : okZ z with
    | false =>
      refine ⟨H1, fun R KE KR => ?_, o1⟩
      rw [front, hk, hd, hk]; rfl
    | true =>
      have hk' := hk
      unfold okZ at hk'
      simp only [Bool.and_eq_true] at hk'
      have hm := okG_mul hk'.1
      obtain ⟨H2, e2, o2⟩ := ih n (i + 1) (t + z.1.1 * z.1.2) (by omega) (by omega) (by omega) (by push_cast; omega) H1 (hg.keep o1) (hp.keep o1)
      refine ⟨H2, fun R KE KR => ?_, o1.trans (o2.mono o1.1)⟩
      rw [front, hk, hd, hk, w64 (n := z.1.1 * z.1.2) (by omega) (by omega), w64 (n := t + z.1.1 * z.1.2) (by omega) (by omega), w64 (n := (i : Int) + 1) (by omega) (by omega)]
      have hs : t + sumZ (zs.drop i) = t + z.1.1 * z.1.2 + sumZ (zs.drop (i + 1)) := by
        rw [drop_cons hz]; simp [sumZ]; omega
      rw [hs, Bool.true_and]
      exact e2 R KE KR
end Go.Proofs.Ytmanlfonppfhaaa.Sh
