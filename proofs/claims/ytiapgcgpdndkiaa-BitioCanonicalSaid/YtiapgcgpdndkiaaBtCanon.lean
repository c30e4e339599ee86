/- BitioCanonical: the bytes up to the place where Align succeeds are those that a writer makes of the bits. -/
import Derived.Test.YtiapgcgpdndkiaaBtY
import Derived.Test.YtiapgcgpdndkiaaBtT
import Derived.Test.YtiapgcgpdndkiaaBtX
import Derived.Test.YtiapgcgpdndkiaaBtE
import Derived.Test.YtiapgcgpdndkiaaSh11
set_option linter.unusedVariables false
set_option linter.unusedSimpArgs false
namespace Go.Proofs.Ytiapgcgpdndkiaa.Sh
open Go.Proofs.Ytiapgcgpdndkiaa.FW Go.IntWalk
/-- The bytes of some bits, one after the other. -/
def stp (s : List Int × List Int) : List Int × List Int := (s.1 ++ [((val (s.2.take (sz s.1)) : Nat) : Int)], s.2.drop (sz s.1))
def its : Nat → List Int × List Int → List Int × List Int
  | 0, s => s
  | n + 1, s => stp (its n s)
theorem its_full {b pre : List Int} (h : Full b pre) : ∀ t, its b.length ([], pre ++ t) = (b, t) := by
  induction h with
  | nil => intro t; rfl
  | @snoc b pre c hF hc ih =>
    intro t
    rw [show (b ++ [((val c : Nat) : Int)]).length = b.length + 1 from by simp, its, List.append_assoc, ih]
    unfold stp
    simp only
    rw [← hc, List.take_left, List.drop_left]
theorem its_more {b pre : List Int} (h : Full b pre) : ∀ t n, n < b.length → sz (its n ([], pre ++ t)).1 ≤ (its n ([], pre ++ t)).2.length := by
  induction h with
  | nil => intro t n hn; simp at hn
  | @snoc b pre c hF hc ih =>
    intro t n hn
    rw [List.append_assoc]
    simp only [List.length_append, List.length_cons, List.length_nil] at hn
    by_cases h1 : n < b.length
    · exact ih (c ++ t) n h1
    · have : n = b.length := by omega
      subst this
      rw [its_full hF]
      simp only [List.length_append]; omega
theorem full_uniq {b pre t b' pre' t' : List Int} (h : Full b pre) (h' : Full b' pre') (e : pre ++ t = pre' ++ t') (ht : t.length < sz b) (ht' : t'.length < sz b') : b = b' ∧ t = t' := by
  have e1 := its_full h t
  have e2 := its_full h' t'
  rcases Nat.lt_trichotomy b.length b'.length with hl | hl | hl
  · have := its_more h' t' b.length hl
    rw [← e, e1] at this
    simp only at this; omega
  · rw [e, hl, e2] at e1
    exact ⟨(congrArg Prod.fst e1).symm, (congrArg Prod.snd e1).symm⟩
  · have := its_more h t b'.length hl
    rw [e, e2] at this
    simp only at this; omega
/-- What the bits that were read are to the bytes. -/
def Cn (bs : List Int) (s : Nat × Nat) (l : List Int) : Prop :=
  B01 l ∧ Okr bs s ∧ (s.2 = 0 → Full (bs.take s.1) l) ∧ (0 < s.2 → ∃ pre c, l = pre ++ c ∧ Full (bs.take (s.1 - 1)) pre ∧ c.length + s.2 = sz (bs.take (s.1 - 1)) ∧ (bs.getD (s.1 - 1) 0).toNat / 2 ^ s.2 = val c ∧ 1 ≤ c.length)
theorem take_len {bs : List Int} {a : Nat} (h : a ≤ bs.length) : (bs.take a).length = a := by rw [List.length_take]; omega
theorem szr_take {bs : List Int} {a : Nat} (h : a ≤ bs.length) : szr bs a = sz (bs.take a) := by
  have := szr_app (bs.take a) (bs.drop a)
  rwa [List.take_append_drop, take_len h] at this
theorem take_snoc {bs : List Int} {a : Nat} (h : a < bs.length) : bs.take (a + 1) = bs.take a ++ [bs.getD a 0] := by
  rw [List.take_add_one, List.getD_eq_getElem?_getD, List.getElem?_eq_getElem h]; rfl
theorem Cn.next {bs : List Int} (hb : Byts bs) {s s1 : Nat × Nat} {l : List Int} {x : Int} (h : Cn bs s l) (e : rget bs s = ((x, 0), s1)) : Cn bs s1 (l ++ [x]) := by
  obtain ⟨h01, hok, h0, h1⟩ := h
  obtain ⟨a, l0⟩ := s
  have hx := (rget_bit bs (a, l0)).1
  rw [e] at hx
  have hok1 := rget_ok hok
  rw [e] at hok1
  have ha := hok.a
  have hl7 := hok.l
  have hz := hok.z
  simp only at hx hok1 ha hl7 hz h0 h1
  refine ⟨h01.app (.one hx), hok1, ?_⟩
  have hxn := bn_of hx
  have hz8 := szr_le bs a
  have hz7 := szr_ge bs a
  unfold rget at e
  by_cases hl0 : l0 = 0
  · subst hl0
    rw [if_pos rfl] at e
    by_cases hat : a = bs.length
    · rw [if_pos hat] at e; cases e
    rw [if_neg hat] at e
    by_cases hbad : szr bs a = 7 ∧ 128 ≤ bs.getD a 0
    · rw [if_pos hbad] at e; cases e
    rw [if_neg hbad] at e
    simp only [Prod.mk.injEq] at e
    obtain ⟨⟨ex, _⟩, rfl⟩ := e
    obtain ⟨v, hv, hv2⟩ := hb.at a
    have hlt : v < 2 ^ szr bs a := by
      by_cases h7 : szr bs a = 7
      · rw [h7]; have : ¬ 128 ≤ bs.getD a 0 := fun hh => hbad ⟨h7, hh⟩
        omega
      · rw [show szr bs a = 8 from by omega]; omega
    have hpw : 2 ^ szr bs a = 2 ^ (szr bs a - 1) * 2 := by rw [← Nat.pow_succ]; congr 1; omega
    have hq : v / 2 ^ (szr bs a - 1) < 2 := by rw [Nat.div_lt_iff_lt_mul (Nat.two_pow_pos _)]; omega
    refine ⟨fun hh => by simp only at hh; omega, fun _ => ⟨l, [x], rfl, ?_, ?_, ?_, by simp⟩⟩
    · simp only [Nat.add_sub_cancel]; exact h0 rfl
    · simp only [Nat.add_sub_cancel, List.length_cons, List.length_nil]
      rw [← szr_take ha]; omega
    · simp only [Nat.add_sub_cancel]
      have hvx : val [x] = bn x := by simp [val]
      rw [hvx, hv, Int.toNat_natCast]
      unfold bitr at ex
      rw [Nat.add_sub_cancel, hv, Int.toNat_natCast, Nat.mod_eq_of_lt hq] at ex
      omega
  · rw [if_neg hl0] at e
    simp only [Prod.mk.injEq] at e
    obtain ⟨⟨ex, _⟩, rfl⟩ := e
    obtain ⟨pre, c, rfl, hF, hcl, hcv, _⟩ := h1 (by omega)
    clear h1 h0
    obtain ⟨v, hv, hv2⟩ := hb.at (a - 1)
    unfold bitr at ex
    rw [hv, Int.toNat_natCast] at ex hcv
    have hpw : 2 ^ l0 = 2 ^ (l0 - 1) * 2 := by rw [← Nat.pow_succ]; congr 1; omega
    have hd : v / 2 ^ l0 = v / 2 ^ (l0 - 1) / 2 := by rw [hpw, Nat.div_div_eq_div_mul]
    have hvc : v / 2 ^ (l0 - 1) = val (c ++ [x]) := by
      rw [val_snoc]
      rw [hd] at hcv
      omega
    have hcl2 : (c ++ [x]).length = c.length + 1 := by simp
    refine ⟨fun hh => ?_, fun hh => ⟨pre, c ++ [x], List.append_assoc _ _ _, hF, by simp only at hh ⊢; omega, by simp only; rw [hv, Int.toNat_natCast]; exact hvc, by omega⟩⟩
    simp only at hh ⊢
    have h10 : l0 - 1 = 0 := hh
    rw [h10, Nat.pow_zero, Nat.div_one] at hvc
    have := Full.snoc hF (c := c ++ [x]) (by omega)
    rw [List.append_assoc]
    have ha1 : a - 1 < bs.length := by omega
    have ht := take_snoc ha1
    rw [show a - 1 + 1 = a from by omega, hv, hvc] at ht
    rw [ht]; exact this
/-- Where Align succeeds. -/
theorem Cn.align {bs : List Int} (hb : Byts bs) {s : Nat × Nat} {l b pre t : List Int} (h : Cn bs s l) (e : (rA bs s).1.2 = 0) (hF : Full b pre) (ht : t.length < sz b) (hl : l = pre ++ t) : ∃ n : Nat, (rA bs s).1.1 = (n : Int) ∧ n ≤ bs.length ∧ fnB b t = bs.take n := by
  obtain ⟨h01, hok, h0, h1⟩ := h
  obtain ⟨a, l0⟩ := s
  have ha := hok.a
  have hl7 := hok.l
  have hz := hok.z
  simp only at ha hl7 hz h0 h1
  unfold rA at e ⊢
  by_cases ha0 : a = 0
  · rw [if_pos ha0] at e ⊢
    have hl0 : l0 = 0 := by omega
    have := h0 hl0
    rw [ha0] at this
    have hu := full_uniq (t := t) (t' := []) hF this (by rw [List.append_nil, ← hl]) ht (by have := sz_ge (bs.take 0); simp only [List.length_nil]; omega)
    refine ⟨0, rfl, by omega, ?_⟩
    rw [hu.1, hu.2]; rfl
  rw [if_neg ha0] at e ⊢
  simp only at e ⊢
  by_cases hm : (bs.getD (a - 1) 0).toNat % 2 ^ l0 = 0
  · rw [if_neg (fun hh => hh hm)] at e ⊢
    by_cases hl0 : l0 = 0
    · have hF2 := h0 hl0
      have hs7 := sz_ge (bs.take a)
      have hu := full_uniq (t := t) (t' := []) hF hF2 (by rw [List.append_nil, ← hl]) ht (by simp only [List.length_nil]; omega)
      have hszr := szr_take ha
      by_cases h255 : bs.getD (a - 1) 0 = 255
      · rw [if_pos ⟨hl0, h255⟩] at e ⊢
        have h7 : sz (bs.take a) = 7 := by rw [← hszr]; unfold szr; rw [if_pos ⟨by omega, h255⟩]
        by_cases hat : a = bs.length
        · rw [if_pos hat] at e; cases e
        rw [if_neg hat] at e ⊢
        by_cases hn : bs.getD a 0 = 0
        · rw [if_neg (fun hh => hh hn)]
          refine ⟨a + 1, rfl, by omega, ?_⟩
          rw [hu.1, hu.2]
          unfold fnB
          rw [if_pos (show ([] : List Int).length = 0 from rfl), if_pos h7, take_snoc (by omega), hn]
        · rw [if_pos hn] at e; cases e
      · rw [if_neg (fun hh => h255 hh.2)]
        have h8 : sz (bs.take a) ≠ 7 := by rw [← hszr]; unfold szr; rw [if_neg (fun hh => h255 hh.2)]; omega
        refine ⟨a, rfl, ha, ?_⟩
        rw [hu.1, hu.2]
        unfold fnB
        rw [if_pos (show ([] : List Int).length = 0 from rfl), if_neg h8]
    · rw [if_neg (fun hh => hl0 hh.1)]
      obtain ⟨pre2, c, hl2, hF2, hcl, hcv, hc0⟩ := h1 (by omega)
      clear h1 h0
      have hcl' : c.length + l0 = sz (bs.take (a - 1)) := hcl
      have hlt : c.length < sz (bs.take (a - 1)) := by
        have : 0 < l0 := Nat.pos_of_ne_zero hl0
        omega
      have hu := full_uniq (t := t) (t' := c) hF hF2 (by rw [← hl, hl2]) ht hlt
      refine ⟨a, rfl, ha, ?_⟩
      obtain ⟨v, hv, hv2⟩ := hb.at (a - 1)
      have hc1 : c.length ≠ 0 := by omega
      rw [hu.1, hu.2]
      unfold fnB
      have h2 := take_snoc (bs := bs) (a := a - 1) (by omega)
      rw [show a - 1 + 1 = a from by omega] at h2
      rw [if_neg hc1, h2, show sz (bs.take (a - 1)) - c.length = l0 from by omega, hv]
      rw [hv, Int.toNat_natCast] at hcv hm
      have := Nat.div_add_mod v (2 ^ l0)
      rw [hm, hcv, Nat.add_zero, Nat.mul_comm] at this
      rw [this]
  · rw [if_pos hm] at e; cases e
theorem Rd.stp {H H' : Heap} {p p2 : Nat} {q q2 q2' : Option Addr} {bs : List Int} {s : Nat × Nat} (h : Rd H p q bs s) (o : Stp p2 q2 H q2' H') (h1 : p ≠ p2) (h2 : ∀ a, q2 = some a → a.block ≠ p) (h3 : ∀ a, q = some a → a.block ≠ p2) (h4 : ∀ a b, q2 = some a → q = some b → a.block ≠ b.block) : Rd H' p q bs s := by
  obtain ⟨c, hc⟩ := h.c
  refine ⟨⟨c, Owns.stp o hc h1 h2⟩, ?_, h.ap, h.ok, h.by_⟩
  rcases h.sh with hh | ⟨b, f, full, rfl, hs, g1, g2⟩
  · exact .inl hh
  · have hl := hs.lt
    obtain ⟨B, hB, rfl⟩ := hs
    exact .inr ⟨b, f, _, rfl, ⟨B, by rw [o.old b hl (h3 _ rfl) (fun a ha => h4 a _ ha rfl)]; exact hB, rfl⟩, g1, g2⟩
theorem canon_l {k : Nat} (q0 : Option Addr) (l0 c0 : Nat) {N : Nat} {bs : List Int} (hb : Byts bs) {M : Nat} (hM : M ≤ 4000) {p p2 : Nat} {q : Option Addr} (hp : N ≤ p) (hp2 : N ≤ p2) (hne : p < p2) (hqp : ∀ a, q = some a → a.block < p) : ∀ (m n i : Nat), m < n → M = i + m → ∀ (H : Heap) (s : Nat × Nat) (q2 : Option Addr) (l : List Int), Rd H p q bs s → Wr N H p2 q2 l → (∀ a, q2 = some a → p2 < a.block) → Cn bs s l → l.length = i → N ≤ H.length →
    ∃ H' s' q2' l', (∀ (R : Type) (KE : Option Addr → Nat → Nat → Option Addr → Option Addr → Heap → Option R) (KR : Bool → Heap → Option R), L_BitioCanonical_l1 k KE KR n q0 l0 c0 (M : Int) (some ⟨p, 0, none⟩) (some ⟨p2, 0, none⟩) (i : Int) H = KE q0 l0 c0 (some ⟨p, 0, none⟩) (some ⟨p2, 0, none⟩) H') ∧ Rd H' p q bs s' ∧ Wr N H' p2 q2' l' ∧ Cn bs s' l' ∧ l'.length ≤ 4000 ∧ Old N H H' ∧ (∀ a, q2' = some a → p2 < a.block) := by
  intro m
  induction m with
  | zero =>
    intro n i hn hi H s q2 l r w hq2 cn hl hN
    obtain ⟨n, rfl⟩ : ∃ n', n = n' + 1 := ⟨n - 1, by omega⟩
    have ed : decide ((i : Int) < (M : Int)) = false := decide_eq_false (by omega)
    refine ⟨H, s, q2, l, fun R KE KR => ?_, r, w, cn, by omega, .refl _ _, hq2⟩
    unfold L_BitioCanonical_l1 L_BitioCanonical_l1_b
    exact go_f ed rfl
  | succ m ih =>
    intro n i hn hi H s q2 l r w hq2 cn hl hN
    obtain ⟨n, rfl⟩ : ∃ n', n = n' + 1 := ⟨n - 1, by omega⟩
    have ed : decide ((i : Int) < (M : Int)) = true := decide_eq_true (by omega)
    obtain ⟨H1, e1, R1, b1⟩ := pGet_eq k r
    have W1 : Wr N H1 p2 q2 l := w.stp (Stp.of_but (q := none) b1) ⟨by omega, (fun a ha => by cases ha), (fun a ha => by have := hq2 a ha; omega), (fun a b ha => by cases ha)⟩
    by_cases he : (rget bs s).1.2 = 0
    · have d1 : ((rget bs s).1.2 != 0) = false := by rw [he]; rfl
      have hb1 := (rget_bit bs s).1
      obtain ⟨q3, H2, e2, W2, S2⟩ := pPut_eq k W1 (by have := b1.1; omega) (by omega) (rget bs s).1.1
      have hwp : wP (rget bs s).1.1 = (0, [(rget bs s).1.1]) := if_pos hb1
      rw [hwp] at e2 W2
      have cn2 : Cn bs (rget bs s).2 (l ++ [(rget bs s).1.1]) := cn.next hb (by
        have : rget bs s = (((rget bs s).1.1, (rget bs s).1.2), (rget bs s).2) := rfl
        rw [he] at this; exact this)
      have R2 := R1.stp S2 (by omega) (fun a ha => by have := hq2 a ha; omega) (fun a ha => by have := hqp a ha; omega) (fun a b ha hb => by have := hq2 a ha; have := hqp b hb; omega)
      have w1 : IntKind.wrap .i64 ((i : Int) + 1) = ((i + 1 : Nat) : Int) := by rw [w64 (by omega) (by omega)]; omega
      have hq3 : ∀ a, q3 = some a → p2 < a.block := by
        rcases S2.new with h | h
        · rw [h]; exact hq2
        · exact fun a ha => by have := h a ha; have := W1.lt; omega
      have n1 := b1.1
      have n2 := S2.len
      obtain ⟨H', s', q2', l', e3, R3, W3, C3, L3, O3, g3⟩ := ih n (i + 1) (by omega) (by omega) H2 _ q3 _ R2 W2 hq3 cn2 (by rw [List.length_append]; simp only [List.length_cons, List.length_nil]; omega) (by omega)
      refine ⟨H', s', q2', l', fun R KE KR => ?_, R3, W3, C3, L3, ((b1.old hp hN).trans (S2.below hp2 (fun a ha => by have := hq2 a ha; omega) (by omega))).trans O3, g3⟩
      unfold L_BitioCanonical_l1 L_BitioCanonical_l1_b
      repeat (first | (with_reducible refine (e1 _ _).trans ?_) | (with_reducible refine (e2 _ _).trans ?_) | ((with_reducible refine go_ip (x := ?_) ?_ ?_); rotate_left 1; (first  | rfl)) | ((with_reducible refine go_bp (x := ?_) ?_ ?_); rotate_left 1; (first  | rfl)) | ((with_reducible refine go_lp (x := ?_) (l := ?_) (c := ?_) ?_ ?_); rotate_left 3; (first  | rfl)) | ((with_reducible refine go_pp (x := ?_) ?_ ?_); rotate_left 1; (first  | rfl)) | ((with_reducible refine go_i (x := ?_) ?_ ?_); rotate_left 1; (first  | rfl)) | ((with_reducible refine go_b (x := ?_) ?_ ?_); rotate_left 1; (first  | rfl)) | ((with_reducible refine go_l (x := ?_) (l := ?_) (c := ?_) ?_ ?_); rotate_left 3; (first  | rfl)) | ((with_reducible refine go_p (x := ?_) ?_ ?_); rotate_left 1; (first  | rfl)) | ((with_reducible refine go_halst rfl ?_ ?_ ?_); rfl; rfl) | (with_reducible refine go_halN rfl ?_) | (with_reducible refine go_t ed ?_) | (with_reducible refine go_f ed ?_) | (with_reducible refine go_t d1 ?_) | (with_reducible refine go_f d1 ?_) | ((with_reducible refine go_t ?_ ?_); (show _ = true; rfl)) | ((with_reducible refine go_f ?_ ?_); (show _ = false; rfl)) | (with_reducible refine go_ne ?_) | (with_reducible refine go_eq ?_) | (with_reducible refine go_fad ?_) | (with_reducible refine go_nil ?_))
      try dsimp only
      rw [w1]
      exact e3 _ _ _
    · have d1 : ((rget bs s).1.2 != 0) = true := by simpa using he
      have hst := (rget_bit bs s).2 he
      rw [hst] at R1
      refine ⟨H1, s, q2, l, fun R KE KR => ?_, R1, W1, cn, by omega, b1.old hp hN, hq2⟩
      unfold L_BitioCanonical_l1 L_BitioCanonical_l1_b
      repeat (first | (with_reducible refine (e1 _ _).trans ?_) | ((with_reducible refine go_ip (x := ?_) ?_ ?_); rotate_left 1; (first  | rfl)) | ((with_reducible refine go_bp (x := ?_) ?_ ?_); rotate_left 1; (first  | rfl)) | ((with_reducible refine go_lp (x := ?_) (l := ?_) (c := ?_) ?_ ?_); rotate_left 3; (first  | rfl)) | ((with_reducible refine go_pp (x := ?_) ?_ ?_); rotate_left 1; (first  | rfl)) | ((with_reducible refine go_i (x := ?_) ?_ ?_); rotate_left 1; (first  | rfl)) | ((with_reducible refine go_b (x := ?_) ?_ ?_); rotate_left 1; (first  | rfl)) | ((with_reducible refine go_l (x := ?_) (l := ?_) (c := ?_) ?_ ?_); rotate_left 3; (first  | rfl)) | ((with_reducible refine go_p (x := ?_) ?_ ?_); rotate_left 1; (first  | rfl)) | ((with_reducible refine go_halst rfl ?_ ?_ ?_); rfl; rfl) | (with_reducible refine go_halN rfl ?_) | (with_reducible refine go_t ed ?_) | (with_reducible refine go_f ed ?_) | (with_reducible refine go_t d1 ?_) | (with_reducible refine go_f d1 ?_) | ((with_reducible refine go_t ?_ ?_); (show _ = true; rfl)) | ((with_reducible refine go_f ?_ ?_); (show _ = false; rfl)) | (with_reducible refine go_ne ?_) | (with_reducible refine go_eq ?_) | (with_reducible refine go_fad ?_) | (with_reducible refine go_nil ?_))
      rfl
theorem rA_err (bs : List Int) (s : Nat × Nat) (h : (rA bs s).1.2 ≠ 0) : (rA bs s).1.1 = 0 := by
  unfold rA at *
  by_cases h0 : s.1 = 0
  · rw [if_pos h0]
  rw [if_neg h0] at h ⊢
  by_cases h1 : (bs.getD (s.1 - 1) 0).toNat % 2 ^ s.2 ≠ 0
  · rw [if_pos h1]
  rw [if_neg h1] at h ⊢
  by_cases h2 : s.2 = 0 ∧ bs.getD (s.1 - 1) 0 = 255
  · rw [if_pos h2] at h ⊢
    by_cases h3 : s.1 = bs.length
    · rw [if_pos h3]
    rw [if_neg h3] at h ⊢
    by_cases h4 : bs.getD s.1 0 ≠ 0
    · rw [if_pos h4]
    · rw [if_neg h4] at h; exact (h rfl).elim
  · rw [if_neg h2] at h; exact (h rfl).elim
theorem hslc_hi {q : Option Addr} {n l c : Nat} (hn : n ≤ l) (hl : l ≤ c) (hc : c < unk) : ∃ c', ∀ (R : Type) (K : Option Addr → Nat → Nat → Option R), hslc 1 q l c none (some (n : Int)) none K = K q n c' := by
  have hne : c ≠ unk := by omega
  by_cases h0 : ((c : Nat) : Int) = 0
  · refine ⟨0, fun R K => ?_⟩
    unfold hslc
    simp only [Option.getD_some, Option.getD_none, if_neg hne]
    rw [if_pos ⟨by omega, by omega, by omega, by omega, by omega⟩, if_neg (fun h => hne h.1), if_pos h0]
    have : c = 0 := by omega
    subst this
    simp
  · refine ⟨c, fun R K => ?_⟩
    unfold hslc
    simp only [Option.getD_some, Option.getD_none, if_neg hne]
    rw [if_pos ⟨by omega, by omega, by omega, by omega, by omega⟩, if_neg (fun h => hne h.1), if_neg h0]
    have e1 : ((n : Nat) : Int).toNat - (0 : Int).toNat = n := by simp
    have e2 : ((c : Nat) : Int).toNat - (0 : Int).toNat = c := by simp
    rw [e1, e2]
    cases q with
    | none => rfl
    | some a => obtain ⟨b, o, sp⟩ := a; simp only [if_true]
theorem ba_beq' (s : ByteArray) : (s == s) = true := by
  show (s.data == s.data) = true
  exact beq_self_eq_true _
theorem canonical_in (H : Heap) (us : List Value) (h : AllLies H [(.slc (.int .u8), false), (.int .i64, false)] us) : L_BitioCanonical_c Bool 9223372036854777000 us H asB = some true := by
  obtain ⟨k, hk⟩ : ∃ k, k = 9223372036854777000 := ⟨_, rfl⟩
  rw [← hk]
  have hk1 : 1100000 < k := by omega
  clear hk
  obtain ⟨qb, cb, eb, vs, rfl, hcl, hcm, hsb, hSb, h2⟩ := lies_slc h
  obtain ⟨n, vs2, rfl, hnw, h3⟩ := lies_int h2
  obtain rfl := lies_nil h3
  obtain ⟨bs, hbl, hbf, hbw⟩ := bytes_of eb hsb
  rw [hbf] at hSb
  rw [← hbl] at hcl ⊢
  show L_BitioCanonical k qb bs.length cb n H (fun t H => asB (.bool t) H) = some true
  by_cases c1 : bs.length > 500
  · have d1 : decide (((bs.length : Nat) : Int) > 500) = true := decide_eq_true (by omega)
    unfold L_BitioCanonical L_BitioCanonical_b L_BitioCanonical_p0 L_BitioCanonical_p0_b
    repeat (first | ((with_reducible refine go_ip (x := ?_) ?_ ?_); rotate_left 1; (first  | rfl)) | ((with_reducible refine go_bp (x := ?_) ?_ ?_); rotate_left 1; (first  | rfl)) | ((with_reducible refine go_lp (x := ?_) (l := ?_) (c := ?_) ?_ ?_); rotate_left 3; (first  | rfl)) | ((with_reducible refine go_pp (x := ?_) ?_ ?_); rotate_left 1; (first  | rfl)) | ((with_reducible refine go_i (x := ?_) ?_ ?_); rotate_left 1; (first  | rfl)) | ((with_reducible refine go_b (x := ?_) ?_ ?_); rotate_left 1; (first  | rfl)) | ((with_reducible refine go_l (x := ?_) (l := ?_) (c := ?_) ?_ ?_); rotate_left 3; (first  | rfl)) | ((with_reducible refine go_p (x := ?_) ?_ ?_); rotate_left 1; (first  | rfl)) | ((with_reducible refine go_halst rfl ?_ ?_ ?_); rfl; rfl) | (with_reducible refine go_halN rfl ?_) | (with_reducible refine go_t d1 ?_) | (with_reducible refine go_f d1 ?_) | ((with_reducible refine go_t ?_ ?_); (show _ = true; rfl)) | ((with_reducible refine go_f ?_ ?_); (show _ = false; rfl)) | (with_reducible refine go_ne ?_) | (with_reducible refine go_eq ?_) | (with_reducible refine go_fad ?_) | (with_reducible refine go_nil ?_))
    rfl
  have d1 : decide (((bs.length : Nat) : Int) > 500) = false := decide_eq_false (by omega)
  by_cases c2 : n < 0
  · have d2 : decide (n < 0) = true := decide_eq_true c2
    unfold L_BitioCanonical L_BitioCanonical_b L_BitioCanonical_p0 L_BitioCanonical_p0_b
    repeat (first | ((with_reducible refine go_ip (x := ?_) ?_ ?_); rotate_left 1; (first  | rfl)) | ((with_reducible refine go_bp (x := ?_) ?_ ?_); rotate_left 1; (first  | rfl)) | ((with_reducible refine go_lp (x := ?_) (l := ?_) (c := ?_) ?_ ?_); rotate_left 3; (first  | rfl)) | ((with_reducible refine go_pp (x := ?_) ?_ ?_); rotate_left 1; (first  | rfl)) | ((with_reducible refine go_i (x := ?_) ?_ ?_); rotate_left 1; (first  | rfl)) | ((with_reducible refine go_b (x := ?_) ?_ ?_); rotate_left 1; (first  | rfl)) | ((with_reducible refine go_l (x := ?_) (l := ?_) (c := ?_) ?_ ?_); rotate_left 3; (first  | rfl)) | ((with_reducible refine go_p (x := ?_) ?_ ?_); rotate_left 1; (first  | rfl)) | ((with_reducible refine go_halst rfl ?_ ?_ ?_); rfl; rfl) | (with_reducible refine go_halN rfl ?_) | (with_reducible refine go_t d1 ?_) | (with_reducible refine go_f d1 ?_) | (with_reducible refine go_t d2 ?_) | (with_reducible refine go_f d2 ?_) | ((with_reducible refine go_t ?_ ?_); (show _ = true; rfl)) | ((with_reducible refine go_f ?_ ?_); (show _ = false; rfl)) | (with_reducible refine go_ne ?_) | (with_reducible refine go_eq ?_) | (with_reducible refine go_fad ?_) | (with_reducible refine go_nil ?_))
    rfl
  have d2 : decide (n < 0) = false := decide_eq_false c2
  by_cases c3 : n > 4000
  · have d3 : decide (n > 4000) = true := decide_eq_true c3
    unfold L_BitioCanonical L_BitioCanonical_b L_BitioCanonical_p0 L_BitioCanonical_p0_b
    repeat (first | ((with_reducible refine go_ip (x := ?_) ?_ ?_); rotate_left 1; (first  | rfl)) | ((with_reducible refine go_bp (x := ?_) ?_ ?_); rotate_left 1; (first  | rfl)) | ((with_reducible refine go_lp (x := ?_) (l := ?_) (c := ?_) ?_ ?_); rotate_left 3; (first  | rfl)) | ((with_reducible refine go_pp (x := ?_) ?_ ?_); rotate_left 1; (first  | rfl)) | ((with_reducible refine go_i (x := ?_) ?_ ?_); rotate_left 1; (first  | rfl)) | ((with_reducible refine go_b (x := ?_) ?_ ?_); rotate_left 1; (first  | rfl)) | ((with_reducible refine go_l (x := ?_) (l := ?_) (c := ?_) ?_ ?_); rotate_left 3; (first  | rfl)) | ((with_reducible refine go_p (x := ?_) ?_ ?_); rotate_left 1; (first  | rfl)) | ((with_reducible refine go_halst rfl ?_ ?_ ?_); rfl; rfl) | (with_reducible refine go_halN rfl ?_) | (with_reducible refine go_t d1 ?_) | (with_reducible refine go_f d1 ?_) | (with_reducible refine go_t d2 ?_) | (with_reducible refine go_f d2 ?_) | (with_reducible refine go_t d3 ?_) | (with_reducible refine go_f d3 ?_) | ((with_reducible refine go_t ?_ ?_); (show _ = true; rfl)) | ((with_reducible refine go_f ?_ ?_); (show _ = false; rfl)) | (with_reducible refine go_ne ?_) | (with_reducible refine go_eq ?_) | (with_reducible refine go_fad ?_) | (with_reducible refine go_nil ?_))
    rfl
  have d3 : decide (n > 4000) = false := decide_eq_false c3
  obtain ⟨M, rfl⟩ : ∃ M : Nat, n = M := ⟨n.toNat, by omega⟩
  have hB : Byts bs := ⟨hbw, by omega⟩
  obtain ⟨p, q1, H1, e1, R1, o1, hp, hq⟩ := nReader_eq cb hSb hB
  obtain ⟨H2, e2, W2, o2, n2⟩ := nWriter_eq (N := H.length) o1.1
  have hpl := R1.lt
  have cn0 : Cn bs (0, 0) [] := ⟨(fun x hx => by cases hx), ⟨by simp, by simp, by simp⟩, fun _ => by simpa using Full.nil, fun hh => by simp at hh⟩
  obtain ⟨H3, s3, q3, l3, e3, R3, W3, C3, L3, O3, g3⟩ := canon_l (k := k) qb bs.length cb hB (M := M) (by omega) hp o1.1 hpl (fun a ha => (hq a ha).2) M k 0 (by omega) (by omega) H2 (0, 0) none [] (R1.keep o2) W2 (fun a ha => by cases ha) cn0 rfl (by have := o1.1; omega)
  simp only [Int.natCast_zero] at e3
  obtain ⟨H4, e4, R4, b4⟩ := pAlign_eq k R3
  have W4 : Wr H.length H4 H1.length q3 l3 := W3.stp (Stp.of_but (q := none) b4) ⟨by omega, (fun a ha => by cases ha), (fun a ha => by have := g3 a ha; omega), (fun a b ha => by cases ha)⟩
  have n3 := O3.1
  have n1 := o1.1
  by_cases he : (rA bs s3).1.2 = 0
  · obtain ⟨b, pre, t, H5, z, e5, hF, ht, e6, O6, o6⟩ := bytes_eq k W4 (by omega)
    obtain ⟨v, hv, hvl, hfn⟩ := C3.align hB he hF ht e5
    obtain ⟨c', e7⟩ := hslc_hi (q := qb) hvl hcl (by unfold unk; unfold maxLen at hcm; omega)
    have oo : Old H.length H H5 := ((((o1.trans (o2.mono n1)).trans O3).trans (b4.old hp (by omega))).trans (o6.mono (by have := b4.1; omega)))
    have hS5 : Shows H5 qb (byt bs) := hSb.keep oo
    have hS5' : Shows H5 qb (byt (bs.take v)) := by
      rcases hS5 with hh | ⟨x, f, full, rfl, hs, g1, g2⟩
      · left
        have := byt_len bs
        rw [hh] at this
        rw [List.length_eq_zero_iff.1 this.symm]; simp [byt]
      · refine .inr ⟨x, f, full, rfl, hs, ?_, ?_⟩
        · rw [byt_len, List.length_take]; rw [byt_len] at g1; omega
        · have : byt (bs.take v) = (byt bs).take v := by unfold byt; rw [List.map_take]
          rw [this, ← g2, List.take_take, byt_len, List.length_take, List.length_drop]
          congr 1
          rw [byt_len] at g1; omega
    have hvlen : (bs.take v).length = v := by rw [List.length_take]; omega
    have d5 : ((rA bs s3).1.2 != 0) = false := by rw [he]; rfl
    have d6 : decide ((rA bs s3).1.1 ≥ 0) = true := decide_eq_true (by omega)
    have d7 : decide ((rA bs s3).1.1 ≤ ((bs.length : Nat) : Int)) = true := decide_eq_true (by omega)
    have e7' : ∀ (R : Type) (K : Option Addr → Nat → Nat → Option R), hslc 1 qb bs.length cb none (some (rA bs s3).1.1) none K = K qb v c' := by rw [hv]; exact e7
    have e8 : ∀ (R : Type) (K : Bool → Option R), R09_SameBytes (some ⟨H4.length, 0, none⟩) (fnB b t).length (fnB b t).length qb v c' H5 K = K true := fun R K => by
      unfold R09_SameBytes R09_SameBytes_b
      have g1 := b2s_eq (own_shows O6)
      have g2 := b2s_eq hS5'
      rw [hvlen] at g2
      refine (g1 _ _).trans ((g2 _ _).trans ?_)
      rw [hfn, ba_beq']
    unfold L_BitioCanonical L_BitioCanonical_b L_BitioCanonical_p0 L_BitioCanonical_p0_b
    repeat (first | (with_reducible refine (e1 _ _).trans ?_) | (with_reducible refine (e2 _ _).trans ?_) | ((with_reducible refine go_ip (x := ?_) ?_ ?_); rotate_left 1; (first  | rfl)) | ((with_reducible refine go_bp (x := ?_) ?_ ?_); rotate_left 1; (first  | rfl)) | ((with_reducible refine go_lp (x := ?_) (l := ?_) (c := ?_) ?_ ?_); rotate_left 3; (first  | rfl)) | ((with_reducible refine go_pp (x := ?_) ?_ ?_); rotate_left 1; (first  | rfl)) | ((with_reducible refine go_i (x := ?_) ?_ ?_); rotate_left 1; (first  | rfl)) | ((with_reducible refine go_b (x := ?_) ?_ ?_); rotate_left 1; (first  | rfl)) | ((with_reducible refine go_l (x := ?_) (l := ?_) (c := ?_) ?_ ?_); rotate_left 3; (first  | rfl)) | ((with_reducible refine go_p (x := ?_) ?_ ?_); rotate_left 1; (first  | rfl)) | ((with_reducible refine go_halst rfl ?_ ?_ ?_); rfl; rfl) | (with_reducible refine go_halN rfl ?_) | (with_reducible refine go_t d1 ?_) | (with_reducible refine go_f d1 ?_) | (with_reducible refine go_t d2 ?_) | (with_reducible refine go_f d2 ?_) | (with_reducible refine go_t d3 ?_) | (with_reducible refine go_f d3 ?_) | ((with_reducible refine go_t ?_ ?_); (show _ = true; rfl)) | ((with_reducible refine go_f ?_ ?_); (show _ = false; rfl)) | (with_reducible refine go_ne ?_) | (with_reducible refine go_eq ?_) | (with_reducible refine go_fad ?_) | (with_reducible refine go_nil ?_))
    refine (e3 _ _ _).trans ?_
    repeat (first | (with_reducible refine (e4 _ _).trans ?_) | (with_reducible refine (e6 _ _).trans ?_) | (with_reducible refine (e7' _ _).trans ?_) | (with_reducible refine (e8 _ _).trans ?_) | ((with_reducible refine go_ip (x := ?_) ?_ ?_); rotate_left 1; (first  | rfl)) | ((with_reducible refine go_bp (x := ?_) ?_ ?_); rotate_left 1; (first  | rfl)) | ((with_reducible refine go_lp (x := ?_) (l := ?_) (c := ?_) ?_ ?_); rotate_left 3; (first  | rfl)) | ((with_reducible refine go_pp (x := ?_) ?_ ?_); rotate_left 1; (first  | rfl)) | ((with_reducible refine go_i (x := ?_) ?_ ?_); rotate_left 1; (first  | rfl)) | ((with_reducible refine go_b (x := ?_) ?_ ?_); rotate_left 1; (first  | rfl)) | ((with_reducible refine go_l (x := ?_) (l := ?_) (c := ?_) ?_ ?_); rotate_left 3; (first  | rfl)) | ((with_reducible refine go_p (x := ?_) ?_ ?_); rotate_left 1; (first  | rfl)) | ((with_reducible refine go_halst rfl ?_ ?_ ?_); rfl; rfl) | (with_reducible refine go_halN rfl ?_) | (with_reducible refine go_t d5 ?_) | (with_reducible refine go_f d5 ?_) | (with_reducible refine go_t d6 ?_) | (with_reducible refine go_f d6 ?_) | (with_reducible refine go_t d7 ?_) | (with_reducible refine go_f d7 ?_) | ((with_reducible refine go_t ?_ ?_); (show _ = true; rfl)) | ((with_reducible refine go_f ?_ ?_); (show _ = false; rfl)) | (with_reducible refine go_ne ?_) | (with_reducible refine go_eq ?_) | (with_reducible refine go_fad ?_) | (with_reducible refine go_nil ?_))
    rfl
  · have d5 : ((rA bs s3).1.2 != 0) = true := by simpa using he
    have d6 : ((rA bs s3).1.1 == 0) = true := by rw [rA_err _ _ he]; rfl
    unfold L_BitioCanonical L_BitioCanonical_b L_BitioCanonical_p0 L_BitioCanonical_p0_b
    repeat (first | (with_reducible refine (e1 _ _).trans ?_) | (with_reducible refine (e2 _ _).trans ?_) | ((with_reducible refine go_ip (x := ?_) ?_ ?_); rotate_left 1; (first  | rfl)) | ((with_reducible refine go_bp (x := ?_) ?_ ?_); rotate_left 1; (first  | rfl)) | ((with_reducible refine go_lp (x := ?_) (l := ?_) (c := ?_) ?_ ?_); rotate_left 3; (first  | rfl)) | ((with_reducible refine go_pp (x := ?_) ?_ ?_); rotate_left 1; (first  | rfl)) | ((with_reducible refine go_i (x := ?_) ?_ ?_); rotate_left 1; (first  | rfl)) | ((with_reducible refine go_b (x := ?_) ?_ ?_); rotate_left 1; (first  | rfl)) | ((with_reducible refine go_l (x := ?_) (l := ?_) (c := ?_) ?_ ?_); rotate_left 3; (first  | rfl)) | ((with_reducible refine go_p (x := ?_) ?_ ?_); rotate_left 1; (first  | rfl)) | ((with_reducible refine go_halst rfl ?_ ?_ ?_); rfl; rfl) | (with_reducible refine go_halN rfl ?_) | (with_reducible refine go_t d1 ?_) | (with_reducible refine go_f d1 ?_) | (with_reducible refine go_t d2 ?_) | (with_reducible refine go_f d2 ?_) | (with_reducible refine go_t d3 ?_) | (with_reducible refine go_f d3 ?_) | ((with_reducible refine go_t ?_ ?_); (show _ = true; rfl)) | ((with_reducible refine go_f ?_ ?_); (show _ = false; rfl)) | (with_reducible refine go_ne ?_) | (with_reducible refine go_eq ?_) | (with_reducible refine go_fad ?_) | (with_reducible refine go_nil ?_))
    refine (e3 _ _ _).trans ?_
    repeat (first | (with_reducible refine (e4 _ _).trans ?_) | ((with_reducible refine go_ip (x := ?_) ?_ ?_); rotate_left 1; (first  | rfl)) | ((with_reducible refine go_bp (x := ?_) ?_ ?_); rotate_left 1; (first  | rfl)) | ((with_reducible refine go_lp (x := ?_) (l := ?_) (c := ?_) ?_ ?_); rotate_left 3; (first  | rfl)) | ((with_reducible refine go_pp (x := ?_) ?_ ?_); rotate_left 1; (first  | rfl)) | ((with_reducible refine go_i (x := ?_) ?_ ?_); rotate_left 1; (first  | rfl)) | ((with_reducible refine go_b (x := ?_) ?_ ?_); rotate_left 1; (first  | rfl)) | ((with_reducible refine go_l (x := ?_) (l := ?_) (c := ?_) ?_ ?_); rotate_left 3; (first  | rfl)) | ((with_reducible refine go_p (x := ?_) ?_ ?_); rotate_left 1; (first  | rfl)) | ((with_reducible refine go_halst rfl ?_ ?_ ?_); rfl; rfl) | (with_reducible refine go_halN rfl ?_) | (with_reducible refine go_t d5 ?_) | (with_reducible refine go_f d5 ?_) | (with_reducible refine go_t d6 ?_) | (with_reducible refine go_f d6 ?_) | ((with_reducible refine go_t ?_ ?_); (show _ = true; rfl)) | ((with_reducible refine go_f ?_ ?_); (show _ = false; rfl)) | (with_reducible refine go_ne ?_) | (with_reducible refine go_eq ?_) | (with_reducible refine go_fad ?_) | (with_reducible refine go_nil ?_))
    rfl
end Go.Proofs.Ytiapgcgpdndkiaa.Sh
