/- Bitio: one way to fill bytes; bytes that are the same. -/
import Derived.Test.YtblkejnciinaeaaBtG
import Derived.Test.YtblkejnciinaeaaSh2
set_option linter.unusedVariables false
set_option linter.unusedSimpArgs false
namespace Go.Proofs.Ytblkejnciinaeaa.Sh
open Go.Proofs.Ytblkejnciinaeaa.FW Go.IntWalk
def stp (s : List Int × List Int) : List Int × List Int := (s.1 ++ [((val (s.2.take (sz s.1)) : Nat) : Int)], s.2.drop (sz s.1))
def its : Nat → List Int × List Int → List Int × List Int
  | 0, s => s
  | n + 1, s => stp (its n s)
theorem its_full {b pre : List Int} (h : Full b pre) : ∀ t, its b.length ([], pre ++ t) = (b, t) := by
  induction h with
  | nil => intro t; rfl
  | @snoc b pre c hF hc ih =>
    intro t
    rw [show (b ++ [((val c : Nat) : Int)]).length = b.length + 1 from by simp, its, List.append_assoc, ih]
    unfold stp
    simp only
    rw [← hc, List.take_left, List.drop_left]
theorem its_more {b pre : List Int} (h : Full b pre) : ∀ t n, n < b.length → sz (its n ([], pre ++ t)).1 ≤ (its n ([], pre ++ t)).2.length := by
  induction h with
  | nil => intro t n hn; simp at hn
  | @snoc b pre c hF hc ih =>
    intro t n hn
    rw [List.append_assoc]
    simp only [List.length_append, List.length_cons, List.length_nil] at hn
    by_cases h1 : n < b.length
    · exact ih (c ++ t) n h1
    · have : n = b.length := by omega
      subst this
      rw [its_full hF]
      simp only [List.length_append]; omega
theorem full_uniq {b pre t b' pre' t' : List Int} (h : Full b pre) (h' : Full b' pre') (e : pre ++ t = pre' ++ t') (ht : t.length < sz b) (ht' : t'.length < sz b') : b = b' ∧ t = t' := by
  have e1 := its_full h t
  have e2 := its_full h' t'
  rcases Nat.lt_trichotomy b.length b'.length with hl | hl | hl
  · have := its_more h' t' b.length hl
    rw [← e, e1] at this
    simp only at this; omega
  · rw [e, hl, e2] at e1
    exact ⟨(congrArg Prod.fst e1).symm, (congrArg Prod.snd e1).symm⟩
  · have := its_more h t b'.length hl
    rw [e, e2] at this
    simp only at this; omega
theorem ba_beq (s : ByteArray) : (s == s) = true := by
  show (s.data == s.data) = true
  exact beq_self_eq_true _
theorem same_self {H : Heap} {q q2 : Option Addr} {l : List Int} (c c2 : Nat) (h : Shows H q (byt l)) (h2 : Shows H q2 (byt l)) (R : Type) (K : Bool → Option R) : R09_SameBytes q l.length c q2 l.length c2 H K = K true := by
  unfold R09_SameBytes R09_SameBytes_b
  refine (b2s_eq h _ _).trans ((b2s_eq h2 _ _).trans ?_)
  rw [ba_beq]
theorem Wr.keep {N : Nat} {H H' : Heap} {p : Nat} {q : Option Addr} {l : List Int} (h : Wr N H p q l) (o : Old H.length H H') : Wr N H' p q l := by
  obtain ⟨c, b, pre, t, e1, e2, e3, h1, h2, e4⟩ := h.c
  exact ⟨⟨c, b, pre, t, e1, e2, e3, h1.old o h1.lt, h2.old o (Nat.le_refl _), e4⟩, h.low, h.apt, h.b01⟩
theorem fnB_byte {b pre t : List Int} (h : Full b pre) (ht : t.length < sz b) : ∀ x ∈ fnB b t, 0 ≤ x ∧ x ≤ 255 := by
  have hs8 := sz_le b
  have hv := val_lt t
  have hby := h.byte
  intro x hx
  unfold fnB at hx
  split at hx
  · split at hx
    · rcases List.mem_append.1 hx with h1 | h1
      · exact hby x h1
      · simp only [List.mem_singleton] at h1; omega
    · exact hby x hx
  · have hlt : val t * 2 ^ (sz b - t.length) < 2 ^ sz b := by
      have h1 : val t * 2 ^ (sz b - t.length) < 2 ^ t.length * 2 ^ (sz b - t.length) := Nat.mul_lt_mul_of_pos_right hv (Nat.two_pow_pos _)
      rwa [← Nat.pow_add, show t.length + (sz b - t.length) = sz b from by omega] at h1
    have h28 : 2 ^ sz b ≤ 2 ^ 8 := Nat.pow_le_pow_right (by omega) hs8
    rcases List.mem_append.1 hx with h1 | h1
    · exact hby x h1
    · simp only [List.mem_singleton] at h1; omega
theorem fnB_len (b t : List Int) : (fnB b t).length ≤ b.length + 1 := by
  unfold fnB
  split
  · split
    · simp
    · omega
  · simp
end Go.Proofs.Ytblkejnciinaeaa.Sh
