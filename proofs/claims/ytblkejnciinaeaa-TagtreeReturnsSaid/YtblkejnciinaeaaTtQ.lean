/- Tagtree: steps of the laws' loops. -/
import Derived.Test.YtblkejnciinaeaaTtP
import Derived.Test.YtblkejnciinaeaaTtOps
set_option linter.unusedVariables false
set_option linter.unusedSimpArgs false
namespace Go.Proofs.Ytblkejnciinaeaa.Sh
open Go.Proofs.Ytblkejnciinaeaa.FW Go.IntWalk
theorem setT_ok {a b : Nat} {e d : Bool} {x y v : Int} {g : Nat → Nat → Nd} (h : Gok g) : Gok (setT a b e d x y v g) := by
  unfold setT setG
  split
  · intro i j
    by_cases hi : i = 0
    · subst hi; rw [upd2_at]; unfold upd; split
      · exact h 0 _
      · exact h 0 j
    · rw [upd2_ne _ _ _ hi]; exact h i j
  · exact h
/-- The bounds of a tree. -/
theorem Tn.lows {N : Nat} {H : Heap} {p : Nat} {q : Option Addr} {c : Nat} {l : List Lv} {e d : Bool} {g : Nat → Nat → Nd} (T : Tn N H p q c l e d g) : N ≤ p ∧ ∀ (j : Nat) (v : Lv), l[j]? = some v → N ≤ v.b := ⟨T.low, fun j v hv => (T.n j v hv).2.1⟩
theorem tc_below {N : Nat} {H H' : Heap} {l : List Lv} (s : Tc l H H') (hl : ∀ (j : Nat) (v : Lv), l[j]? = some v → N ≤ v.b) (hN : N ≤ H.length) : Old N H H' := ⟨s.1, fun i hi => s.2 i (by omega) fun j v hv => by have := hl j v hv; omega⟩
theorem Ch.below {M p : Nat} {l : List Lv} {pw : Nat} {q q' : Option Addr} {H H' : Heap} (s : Ch p l pw q H q' H') (hp : M ≤ p) (hl : ∀ (j : Nat) (v : Lv), l[j]? = some v → M ≤ v.b) (hw : M ≤ pw) (hq : ∀ a, q = some a → M ≤ a.block) (hM : M ≤ H.length) : Old M H H' ∧ ∀ a, q' = some a → M ≤ a.block := by
  refine ⟨⟨s.len, fun i hi => s.old i (by omega) (by omega) (fun a ha => by have := hq a ha; omega) (by omega) fun j v hv => by have := hl j v hv; omega⟩, fun a ha => ?_⟩
  rcases s.new with h | h
  · subst h; exact hq a ha
  · have := h a ha; omega
theorem half_le {t : Int} (h : 0 ≤ t) (h2 : t ≤ 65536) : IntKind.wrap .i64 (Int.tdiv t 2) = t / 2 ∧ 0 ≤ t / 2 ∧ t / 2 ≤ t := by
  have e : Int.tdiv t 2 = t / 2 := Int.tdiv_eq_ediv_of_nonneg h
  rw [e, w64 (by omega) (by omega)]; omega
theorem encR_un {a b L : Nat} {e d : Bool} {g : Nat → Nat → Nd} {o : Op4} (hk : o.1 = 1) (hL : L ≤ 17) : (encR a b L e d g o.2.1 o.2.2.1 o.2.2.2).2.2.2.length ≤ 20 + un o := by
  have h1 := encR_len (a := a) (b := b) (L := L) (e := e) (d := d) (g := g) (x := o.2.1) (y := o.2.2.1) (t := o.2.2.2)
  by_cases h : (encR a b L e d g o.2.1 o.2.2.1 o.2.2.2).1 = 0
  · rw [if_pos h] at h1
    obtain ⟨_, _, h2, h3, _⟩ := encR_zero h
    unfold un
    by_cases h4 : 0 < o.2.2.2
    · rw [if_pos ⟨.inl hk, h4, h3⟩]; omega
    · omega
  · rw [if_neg h] at h1; omega
end Go.Proofs.Ytblkejnciinaeaa.Sh
