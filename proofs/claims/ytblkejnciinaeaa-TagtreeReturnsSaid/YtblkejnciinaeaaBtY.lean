/- Bitio: what is written is read back (plain laws). -/
import Derived.Test.YtblkejnciinaeaaBtS
import Derived.Test.YtblkejnciinaeaaBtD
import Derived.Test.YtblkejnciinaeaaBtW
import Derived.Test.YtblkejnciinaeaaBtG
set_option linter.unusedVariables false
set_option linter.unusedSimpArgs false
namespace Go.Proofs.Ytblkejnciinaeaa.Sh
open Go.Proofs.Ytblkejnciinaeaa.FW Go.IntWalk
/-- Bits that are read one after the other. -/
inductive Run (bs : List Int) : Nat × Nat → List Int → Nat × Nat → Prop
  | nil (s) : Run bs s [] s
  | cons {s s1 s2 x l} : rget bs s = ((x, 0), s1) → Run bs s1 l s2 → Run bs s (x :: l) s2
theorem Run.app {bs : List Int} {s s1 s2 : Nat × Nat} {l m : List Int} (h : Run bs s l s1) (k : Run bs s1 m s2) : Run bs s (l ++ m) s2 := by
  induction h with
  | nil s => exact k
  | cons e _ ih => exact .cons e (ih k)
theorem Run.split {bs : List Int} {s s2 : Nat × Nat} : ∀ {l m : List Int}, Run bs s (l ++ m) s2 → ∃ s1, Run bs s l s1 ∧ Run bs s1 m s2 := by
  intro l
  induction l generalizing s with
  | nil => intro m h; exact ⟨s, .nil s, h⟩
  | cons x l ih =>
    intro m h
    cases h with
    | cons e h =>
      obtain ⟨s1, h1, h2⟩ := ih h
      exact ⟨s1, .cons e h1, h2⟩
theorem Run.one {bs : List Int} {s s1 : Nat × Nat} {x : Int} (h : Run bs s [x] s1) : rget bs s = ((x, 0), s1) := by
  cases h with
  | cons e h => cases h; exact e
/-- A byte's bits, from the top. -/
theorem byte_run {bs : List Int} (hb : Byts bs) {a : Nat} (ha : a < bs.length) (h7 : szr bs a = 7 → bs.getD a 0 < 128) : ∀ (n : Nat) (c : List Int), c.length = n + 1 → c.length ≤ szr bs a → B01 c → (bs.getD a 0).toNat / 2 ^ (szr bs a - c.length) = val c → Run bs (a, 0) c (a + 1, szr bs a - c.length) := by
  have hz7 := szr_ge bs a
  intro n
  induction n with
  | zero =>
    intro c hc hl h01 hv
    obtain ⟨y, rfl⟩ := List.length_eq_one_iff.1 hc
    have hy := h01 y (by simp)
    have hyn := bn_of hy
    refine .cons ?_ (.nil _)
    unfold rget
    rw [if_pos rfl, if_neg (by simp only; omega), if_neg (fun hh => by have := h7 hh.1; simp only at hh; omega)]
    have hv2 : val [y] = bn y := by simp [val]
    have : ((bitr bs (a + 1) (szr bs a - 1) : Nat) : Int) = y := by
      unfold bitr
      rw [Nat.add_sub_cancel]
      rw [hv2] at hv
      simp only [List.length_cons, List.length_nil, Nat.zero_add] at hv
      rw [hv]
      have := bn_le y
      omega
    rw [this]
    rfl
  | succ n ih =>
    intro c hc hl h01 hv
    obtain ⟨c0, y, rfl⟩ : ∃ c0 y, c = c0 ++ [y] := by
      have hne : c ≠ [] := fun h => by rw [h] at hc; simp at hc
      exact ⟨c.dropLast, c.getLast hne, (List.dropLast_concat_getLast hne).symm⟩
    have hc0 : c0.length = n + 1 := by simpa using hc
    have hcl : (c0 ++ [y]).length = c0.length + 1 := by simp
    have hy := h01.right y (by simp)
    have hyn := bn_of hy
    have hb1 := bn_le y
    rw [hcl] at hl hv ⊢
    rw [val_snoc] at hv
    have hpw : 2 ^ (szr bs a - c0.length) = 2 ^ (szr bs a - (c0.length + 1)) * 2 := by rw [← Nat.pow_succ]; congr 1; omega
    have hv0 : (bs.getD a 0).toNat / 2 ^ (szr bs a - c0.length) = val c0 := by rw [hpw, ← Nat.div_div_eq_div_mul, hv]; omega
    refine (ih c0 hc0 (by omega) h01.left hv0).app (.cons ?_ (.nil _))
    unfold rget
    rw [if_neg (by simp only; omega)]
    have : ((bitr bs (a + 1) (szr bs a - c0.length - 1) : Nat) : Int) = y := by
      unfold bitr
      rw [Nat.add_sub_cancel, show szr bs a - c0.length - 1 = szr bs a - (c0.length + 1) from by omega, hv]
      omega
    simp only
    rw [this, show szr bs a - c0.length - 1 = szr bs a - (c0.length + 1) from by omega]
theorem szr_app (b tail : List Int) : szr (b ++ tail) b.length = sz b := by
  unfold szr sz
  by_cases h0 : 0 < b.length
  · have e : (b ++ tail).getD (b.length - 1) 0 = b.getLast (fun h => by rw [h] at h0; simp at h0) := by
      rw [List.getD_eq_getElem?_getD, List.getElem?_append_left (by omega), ← List.getLast?_eq_getElem?, List.getLast?_eq_some_getLast]; rfl
    rw [e, List.getLast?_eq_some_getLast (fun h => by rw [h] at h0; simp at h0)]
    simp [h0]
  · have : b = [] := List.length_eq_zero_iff.1 (by omega)
    subst this; simp
theorem full_run {b pre : List Int} (h : Full b pre) (h01 : B01 pre) : ∀ tail, Byts (b ++ tail) → Run (b ++ tail) (0, 0) pre (b.length, 0) := by
  induction h with
  | nil => intro tail _; exact .nil _
  | @snoc b pre c hF hc ih =>
    intro tail hb
    have hs8 := sz_le b
    have hs7 := sz_ge b
    rw [List.append_assoc] at hb ⊢
    have h1 := ih h01.left ([((val c : Nat) : Int)] ++ tail) hb
    have hsz := szr_app b ([((val c : Nat) : Int)] ++ tail)
    have hx : (b ++ ([((val c : Nat) : Int)] ++ tail)).getD b.length 0 = ((val c : Nat) : Int) := by
      rw [List.getD_eq_getElem?_getD, List.getElem?_append_right (Nat.le_refl _)]; simp
    have hv := val_lt c
    have h2 := byte_run hb (a := b.length) (by simp) (fun h7 => by
      rw [hx]; rw [hsz] at h7; rw [hc, h7] at hv; omega) (c.length - 1) c (by omega) (by rw [hsz]; omega) h01.right (by
      rw [hx, hsz, hc, Nat.sub_self, Nat.pow_zero, Nat.div_one, Int.toNat_natCast])
    rw [hsz, hc, Nat.sub_self] at h2
    rw [show (b ++ [((val c : Nat) : Int)]).length = b.length + 1 from by simp]
    exact h1.app h2
theorem rA_of {bs : List Int} {a : Nat} (h : a = 0 ∨ bs.getD (a - 1) 0 ≠ 255) : rA bs (a, 0) = ((((a : Nat) : Int), 0), a, 0) := by
  unfold rA
  by_cases h0 : a = 0
  · subst h0; rfl
  · rw [if_neg h0, if_neg (by simp only [Nat.pow_zero, Nat.mod_one]; omega), if_neg (fun hh => (h.resolve_left h0) hh.2)]
theorem getD_mid (b : List Int) (x : Int) (tail : List Int) : (b ++ ([x] ++ tail)).getD b.length 0 = x := by
  rw [List.getD_eq_getElem?_getD, List.getElem?_append_right (Nat.le_refl _)]; simp
theorem sz_last {b tail : List Int} (h : (b ++ tail).getD (b.length - 1) 0 = 255) (h0 : 0 < b.length) : sz b = 7 := by
  have := szr_app b tail
  unfold szr at this
  rw [if_pos ⟨h0, h⟩] at this
  exact this.symm
/-- The place behind what was written. -/
theorem fin_run {b pre t : List Int} (h : Full b pre) (ht : t.length < sz b) (h01 : B01 (pre ++ t)) (tail : List Int) (hb : Byts (fnB b t ++ tail)) : ∃ s, Run (fnB b t ++ tail) (0, 0) (pre ++ t) s ∧ rA (fnB b t ++ tail) s = (((((fnB b t).length : Nat) : Int), 0), (fnB b t).length, 0) ∧ rA (fnB b t ++ tail) ((fnB b t).length, 0) = (((((fnB b t).length : Nat) : Int), 0), (fnB b t).length, 0) := by
  have hs8 := sz_le b
  have hv := val_lt t
  by_cases h0 : t.length = 0
  · have : t = [] := List.length_eq_zero_iff.1 h0
    subst this
    rw [List.append_nil] at h01 ⊢
    by_cases h7 : sz b = 7
    · have hf : fnB b [] = b ++ [0] := by unfold fnB; rw [if_pos h0, if_pos h7]
      rw [hf] at hb ⊢
      rw [List.append_assoc] at hb ⊢
      have h1 := full_run h h01 _ hb
      have hb0 : 0 < b.length := by
        rcases Nat.eq_zero_or_pos b.length with hh | hh
        · rw [List.length_eq_zero_iff.1 hh] at h7; simp [sz] at h7
        · exact hh
      have h255 : (b ++ ([0] ++ tail)).getD (b.length - 1) 0 = 255 := by
        have := szr_app b ([0] ++ tail)
        rw [h7] at this
        unfold szr at this
        split at this
        · rename_i hh; exact hh.2
        · omega
      have hl : (b ++ [(0 : Int)]).length = b.length + 1 := by simp
      rw [hl]
      have h2 := getD_mid b 0 tail
      refine ⟨(b.length, 0), h1, ?_, rA_of (.inr ?_)⟩
      · unfold rA
        rw [if_neg (by simp only; omega), if_neg (by simp only [Nat.pow_zero, Nat.mod_one]; omega), if_pos ⟨rfl, h255⟩, if_neg (by simp), if_neg (by simp only [h2]; omega)]
      · rw [Nat.add_sub_cancel, h2]; omega
    · have hf : fnB b [] = b := by unfold fnB; rw [if_pos h0, if_neg h7]
      rw [hf] at hb ⊢
      have h1 := full_run h h01 _ hb
      have hA : rA (b ++ tail) (b.length, 0) = ((((b.length : Nat) : Int), 0), b.length, 0) := by
        refine rA_of ?_
        rcases Nat.eq_zero_or_pos b.length with hh | hh
        · exact .inl hh
        · exact .inr fun h255 => h7 (sz_last h255 hh)
      exact ⟨(b.length, 0), h1, hA, hA⟩
  · have hf : fnB b t = b ++ [((val t * 2 ^ (sz b - t.length) : Nat) : Int)] := by unfold fnB; rw [if_neg h0]
    have hpw : 2 ^ (sz b - t.length) = 2 * 2 ^ (sz b - t.length - 1) := by rw [← Nat.pow_succ']; congr 1; omega
    have hlt : val t * 2 ^ (sz b - t.length) < 2 ^ sz b := by
      have h1 : val t * 2 ^ (sz b - t.length) < 2 ^ t.length * 2 ^ (sz b - t.length) := Nat.mul_lt_mul_of_pos_right hv (Nat.two_pow_pos _)
      rwa [← Nat.pow_add, show t.length + (sz b - t.length) = sz b from by omega] at h1
    have heven : val t * 2 ^ (sz b - t.length) ≠ 255 := by
      intro h3
      rw [hpw, ← Nat.mul_assoc, Nat.mul_comm (val t) 2, Nat.mul_assoc] at h3
      omega
    have hdiv : val t * 2 ^ (sz b - t.length) / 2 ^ (sz b - t.length) = val t := Nat.mul_div_cancel _ (Nat.two_pow_pos _)
    have hmod : val t * 2 ^ (sz b - t.length) % 2 ^ (sz b - t.length) = 0 := Nat.mul_mod_left _ _
    rw [hf] at hb ⊢
    rw [List.append_assoc] at hb ⊢
    generalize val t * 2 ^ (sz b - t.length) = x at hb hlt heven hdiv hmod ⊢
    have h1 := full_run h h01.left _ hb
    have hx := getD_mid b (x : Int) tail
    have hsz := szr_app b ([(x : Int)] ++ tail)
    have h2 := byte_run hb (a := b.length) (by simp) (fun h7 => by
      rw [hx]; rw [hsz] at h7; rw [h7] at hlt; omega) (t.length - 1) t (by omega) (by rw [hsz]; omega) h01.right (by
      rw [hx, hsz, Int.toNat_natCast, hdiv])
    rw [hsz] at h2
    have hl : (b ++ [(x : Int)]).length = b.length + 1 := by simp
    rw [hl]
    refine ⟨_, h1.app h2, ?_, rA_of (.inr ?_)⟩
    · unfold rA
      rw [if_neg (by simp), if_neg (by simp only [Nat.add_sub_cancel, hx, Int.toNat_natCast, hmod]; omega), if_neg (fun hh => by have := hh.1; simp only at this; omega)]
    · rw [Nat.add_sub_cancel, hx]; omega
end Go.Proofs.Ytblkejnciinaeaa.Sh
