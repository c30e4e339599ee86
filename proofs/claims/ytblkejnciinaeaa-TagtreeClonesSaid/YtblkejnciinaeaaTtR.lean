/- Tagtree: a call of a tree beside another one. -/
import Derived.Test.YtblkejnciinaeaaTtQ
import Derived.Test.YtblkejnciinaeaaTtClone
import Derived.Test.YtblkejnciinaeaaBtZ
import Derived.Test.YtblkejnciinaeaaSh15
set_option linter.unusedVariables false
set_option linter.unusedSimpArgs false
namespace Go.Proofs.Ytblkejnciinaeaa.Sh
open Go.Proofs.Ytblkejnciinaeaa.FW Go.IntWalk
/-- A call: what it returns, and the tree then; the bits that it wrote. -/
def opR (bs : List Int) (a b L : Nat) (e d : Bool) (g : Nat → Nat → Nd) (o : Op4) : (Bool × Int) × Bool × Bool × (Nat → Nat → Nd) × List Int :=
  if o.1 = 0 then ((false, setE a b e d o.2.1 o.2.2.1 o.2.2.2), e, d, setT a b e d o.2.1 o.2.2.1 o.2.2.2 g, [])
  else if o.1 = 1 then ((false, (encR a b L e d g o.2.1 o.2.2.1 o.2.2.2).1), (encR a b L e d g o.2.1 o.2.2.1 o.2.2.2).2.1, d, (encR a b L e d g o.2.1 o.2.2.1 o.2.2.2).2.2.1, (encR a b L e d g o.2.1 o.2.2.1 o.2.2.2).2.2.2)
  else if o.1 = 3 then ((decR bs a b L e d g o.2.1 o.2.2.1 o.2.2.2 (0, 0)).1, e, (decR bs a b L e d g o.2.1 o.2.2.1 o.2.2.2 (0, 0)).2.1, (decR bs a b L e d g o.2.1 o.2.2.1 o.2.2.2 (0, 0)).2.2.1, [])
  else ((false, 0), e, d, g, [])
theorem opR_ok {bs : List Int} {a b L : Nat} {e d : Bool} {g : Nat → Nat → Nd} {o : Op4} (h : Gok g) : Gok (opR bs a b L e d g o).2.2.2.1 := by
  unfold opR
  split
  · exact setT_ok h
  · split
    · exact encR_ok h _ _ _
    · split
      · exact decR_ok h _ _ _ _
      · exact h
theorem opR_len {bs : List Int} {a b L : Nat} {e d : Bool} {g : Nat → Nat → Nd} {o : Op4} (hL : L ≤ 17) : (opR bs a b L e d g o).2.2.2.2.length ≤ 70000 := by
  unfold opR
  split
  · simp
  · split
    · rename_i h
      have := encR_un (a := a) (b := b) (L := L) (e := e) (d := d) (g := g) h hL
      have := un_le o
      simp only; omega
    · split <;> simp
/-- What a tree and fresh devices leave alone. -/
structure Lv2 (p : Nat) (l : List Lv) (pa px : Nat) (qx : Option Addr) (H H' : Heap) : Prop where
  len : H.length ≤ H'.length
  old : ∀ i, i < H.length → i ≠ p → (∀ (j : Nat) (v : Lv), l[j]? = some v → v.b ≠ i) → i ≠ pa → i ≠ px → (∀ a, qx = some a → a.block ≠ i) → hblk H' i = hblk H i
theorem al_p0 {k : Nat} (hk : 70000 < k) {N M p : Nat} {q : Option Addr} {c : Nat} {l : List Lv} {e d : Bool} {g : Nat → Nat → Nd} {a b : Nat} (G : Geo a b l) {H : Heap} (T : Tn N H p q c l e d g) (hN : N ≤ H.length) (hg : Gok g) {ob : Nat} {o : Op4} (O : Owns H ob (opc o) 0) {pa : Nat} (W : Wr M H pa none []) (hM : M ≤ H.length) {px : Nat} {qx : Option Addr} {bs : List Int} (X : Rd H px qx bs (0, 0)) (hqx : ∀ a, qx = some a → a.block < H.length) (fa : Off p q l pa) (fx : Off p q l px) (fq : ∀ a, qx = some a → Off p q l a.block) (pt pb py : Option Addr) (s : Bool) (n : Int) :
    ∃ H' qa, (∀ (R : Type) (KN : Option Addr → Option Addr → Option Addr → Option Addr → Option Addr → Option Addr → Bool → Bool → Int → Int → Heap → Option R), L_alike_p0 k (some ⟨p, 0, none⟩) pt (some ⟨ob, 0, none⟩) (some ⟨pa, 0, none⟩) pb (some ⟨px, 0, none⟩) py false s 0 n H KN = KN (some ⟨p, 0, none⟩) pt (some ⟨ob, 0, none⟩) (some ⟨pa, 0, none⟩) pb py (opR bs a b l.length e d g o).1.1 s (opR bs a b l.length e d g o).1.2 n H') ∧
      Tn N H' p q c l (opR bs a b l.length e d g o).2.1 (opR bs a b l.length e d g o).2.2.1 (opR bs a b l.length e d g o).2.2.2.1 ∧ (pa ≠ px → (∀ a, qx = some a → a.block ≠ pa) → Wr M H' pa qa (opR bs a b l.length e d g o).2.2.2.2) ∧ Lv2 p l pa px qx H H' ∧ (∀ a, qa = some a → H.length ≤ a.block) := by
  obtain ⟨m0, m1, m2, m3⟩ := op_cells O
  by_cases k0 : o.1 = 0
  · obtain ⟨H1, e1, T1, c1⟩ := Set_eq (k := k) T G o.2.1 o.2.2.1 o.2.2.2
    have er : opR bs a b l.length e d g o = ((false, setE a b e d o.2.1 o.2.2.1 o.2.2.2), e, d, setT a b e d o.2.1 o.2.2.1 o.2.2.2 g, []) := if_pos k0
    rw [er]
    refine ⟨H1, none, fun R KN => ?_, T1, fun _ _ => W.same (c1.2 _ W.lt fa.2.2) (fun a ha => by cases ha), ⟨c1.1, fun i hi _ h _ _ _ => c1.2 i hi h⟩, fun a ha => by cases ha⟩
    unfold L_alike_p0 L_alike_p0_b
    refine go_fad (go_i m0 (go_t (by rw [k0]; rfl) (go_fad (go_i m1 (go_fad (go_i m2 (go_fad (go_i m3 ?_))))))))
    exact e1 _ _
  by_cases k1 : o.1 = 1
  · obtain ⟨q1, H1, e1, T1, W1, C1, _⟩ := Encode_eq hk T hN G hg W hM fa (fun a ha => by cases ha) o.2.1 o.2.2.1 o.2.2.2 (by simp)
    have er : opR bs a b l.length e d g o = ((false, (encR a b l.length e d g o.2.1 o.2.2.1 o.2.2.2).1), (encR a b l.length e d g o.2.1 o.2.2.1 o.2.2.2).2.1, d, (encR a b l.length e d g o.2.1 o.2.2.1 o.2.2.2).2.2.1, (encR a b l.length e d g o.2.1 o.2.2.1 o.2.2.2).2.2.2) := by unfold opR; rw [if_neg k0, if_pos k1]
    rw [er]
    refine ⟨H1, q1, fun R KN => ?_, T1, fun _ _ => by simpa using W1, ⟨C1.len, fun i hi h1 h2 h3 _ _ => C1.old i hi h3 (fun a ha => by cases ha) h1 h2⟩, fun a ha => ?_⟩
    · unfold L_alike_p0 L_alike_p0_b
      refine go_fad (go_i m0 (go_f (by rw [k1]; rfl) (go_t (by rw [k1]; rfl) (go_fad (go_i m1 (go_fad (go_i m2 (go_fad (go_i m3 ?_)))))))))
      exact e1 _ _
    · rcases C1.new with h | h
      · subst h; cases ha
      · exact h a ha
  by_cases k3 : o.1 = 3
  · obtain ⟨H1, e1, T1, X1, C1⟩ := Decode_eq hk T G hg X hqx fx fq o.2.1 o.2.2.1 o.2.2.2
    have er : opR bs a b l.length e d g o = ((decR bs a b l.length e d g o.2.1 o.2.2.1 o.2.2.2 (0, 0)).1, e, (decR bs a b l.length e d g o.2.1 o.2.2.1 o.2.2.2 (0, 0)).2.1, (decR bs a b l.length e d g o.2.1 o.2.2.1 o.2.2.2 (0, 0)).2.2.1, []) := by unfold opR; rw [if_neg k0, if_neg k1, if_pos k3]
    rw [er]
    refine ⟨H1, none, fun R KN => ?_, T1, fun h1 h2 => W.same (C1.old _ W.lt h1 h2 fa.1 fa.2.2) (fun a ha => by cases ha), ⟨C1.len, fun i hi h1 h2 _ h4 h5 => C1.old i hi h4 h5 h1 h2⟩, fun a ha => by cases ha⟩
    unfold L_alike_p0 L_alike_p0_b
    refine go_fad (go_i m0 (go_f (by rw [k3]; rfl) (go_f (by rw [k3]; rfl) (go_t (by rw [k3]; rfl) (go_fad (go_i m1 (go_fad (go_i m2 (go_fad (go_i m3 ?_))))))))))
    exact e1 _ _
  have er : opR bs a b l.length e d g o = ((false, 0), e, d, g, []) := by unfold opR; rw [if_neg k0, if_neg k1, if_neg k3]
  rw [er]
  refine ⟨H, none, fun R KN => ?_, T, fun _ _ => W, ⟨Nat.le_refl _, fun _ _ _ _ _ _ _ => rfl⟩, fun a ha => by cases ha⟩
  unfold L_alike_p0 L_alike_p0_b
  exact go_fad (go_i m0 (go_f (by rw [beq_eq_false_iff_ne]; exact k0) (go_f (by rw [beq_eq_false_iff_ne]; exact k1) (go_f (by rw [beq_eq_false_iff_ne]; exact k3) rfl))))
theorem al_p1 {k : Nat} (hk : 70000 < k) {N M p : Nat} {q : Option Addr} {c : Nat} {l : List Lv} {e d : Bool} {g : Nat → Nat → Nd} {a b : Nat} (G : Geo a b l) {H : Heap} (T : Tn N H p q c l e d g) (hN : N ≤ H.length) (hg : Gok g) {ob : Nat} {o : Op4} (O : Owns H ob (opc o) 0) {pa : Nat} (W : Wr M H pa none []) (hM : M ≤ H.length) {px : Nat} {qx : Option Addr} {bs : List Int} (X : Rd H px qx bs (0, 0)) (hqx : ∀ a, qx = some a → a.block < H.length) (fa : Off p q l pa) (fx : Off p q l px) (fq : ∀ a, qx = some a → Off p q l a.block) (pt pb : Option Addr) (s : Bool) (n : Int) :
    ∃ H' qa, (∀ (R : Type) (KN : Option Addr → Option Addr → Option Addr → Option Addr → Option Addr → Bool → Bool → Int → Int → Heap → Option R), L_alike_p1 k pt (some ⟨p, 0, none⟩) (some ⟨ob, 0, none⟩) pb (some ⟨pa, 0, none⟩) (some ⟨px, 0, none⟩) s false n 0 H KN = KN pt (some ⟨p, 0, none⟩) (some ⟨ob, 0, none⟩) pb (some ⟨pa, 0, none⟩) s (opR bs a b l.length e d g o).1.1 n (opR bs a b l.length e d g o).1.2 H') ∧
      Tn N H' p q c l (opR bs a b l.length e d g o).2.1 (opR bs a b l.length e d g o).2.2.1 (opR bs a b l.length e d g o).2.2.2.1 ∧ (pa ≠ px → (∀ a, qx = some a → a.block ≠ pa) → Wr M H' pa qa (opR bs a b l.length e d g o).2.2.2.2) ∧ Lv2 p l pa px qx H H' ∧ (∀ a, qa = some a → H.length ≤ a.block) := by
  obtain ⟨m0, m1, m2, m3⟩ := op_cells O
  by_cases k0 : o.1 = 0
  · obtain ⟨H1, e1, T1, c1⟩ := Set_eq (k := k) T G o.2.1 o.2.2.1 o.2.2.2
    have er : opR bs a b l.length e d g o = ((false, setE a b e d o.2.1 o.2.2.1 o.2.2.2), e, d, setT a b e d o.2.1 o.2.2.1 o.2.2.2 g, []) := if_pos k0
    rw [er]
    refine ⟨H1, none, fun R KN => ?_, T1, fun _ _ => W.same (c1.2 _ W.lt fa.2.2) (fun a ha => by cases ha), ⟨c1.1, fun i hi _ h _ _ _ => c1.2 i hi h⟩, fun a ha => by cases ha⟩
    unfold L_alike_p1 L_alike_p1_b
    refine go_fad (go_i m0 (go_t (by rw [k0]; rfl) (go_fad (go_i m1 (go_fad (go_i m2 (go_fad (go_i m3 ?_))))))))
    exact e1 _ _
  by_cases k1 : o.1 = 1
  · obtain ⟨q1, H1, e1, T1, W1, C1, _⟩ := Encode_eq hk T hN G hg W hM fa (fun a ha => by cases ha) o.2.1 o.2.2.1 o.2.2.2 (by simp)
    have er : opR bs a b l.length e d g o = ((false, (encR a b l.length e d g o.2.1 o.2.2.1 o.2.2.2).1), (encR a b l.length e d g o.2.1 o.2.2.1 o.2.2.2).2.1, d, (encR a b l.length e d g o.2.1 o.2.2.1 o.2.2.2).2.2.1, (encR a b l.length e d g o.2.1 o.2.2.1 o.2.2.2).2.2.2) := by unfold opR; rw [if_neg k0, if_pos k1]
    rw [er]
    refine ⟨H1, q1, fun R KN => ?_, T1, fun _ _ => by simpa using W1, ⟨C1.len, fun i hi h1 h2 h3 _ _ => C1.old i hi h3 (fun a ha => by cases ha) h1 h2⟩, fun a ha => ?_⟩
    · unfold L_alike_p1 L_alike_p1_b
      refine go_fad (go_i m0 (go_f (by rw [k1]; rfl) (go_t (by rw [k1]; rfl) (go_fad (go_i m1 (go_fad (go_i m2 (go_fad (go_i m3 ?_)))))))))
      exact e1 _ _
    · rcases C1.new with h | h
      · subst h; cases ha
      · exact h a ha
  by_cases k3 : o.1 = 3
  · obtain ⟨H1, e1, T1, X1, C1⟩ := Decode_eq hk T G hg X hqx fx fq o.2.1 o.2.2.1 o.2.2.2
    have er : opR bs a b l.length e d g o = ((decR bs a b l.length e d g o.2.1 o.2.2.1 o.2.2.2 (0, 0)).1, e, (decR bs a b l.length e d g o.2.1 o.2.2.1 o.2.2.2 (0, 0)).2.1, (decR bs a b l.length e d g o.2.1 o.2.2.1 o.2.2.2 (0, 0)).2.2.1, []) := by unfold opR; rw [if_neg k0, if_neg k1, if_pos k3]
    rw [er]
    refine ⟨H1, none, fun R KN => ?_, T1, fun h1 h2 => W.same (C1.old _ W.lt h1 h2 fa.1 fa.2.2) (fun a ha => by cases ha), ⟨C1.len, fun i hi h1 h2 _ h4 h5 => C1.old i hi h4 h5 h1 h2⟩, fun a ha => by cases ha⟩
    unfold L_alike_p1 L_alike_p1_b
    refine go_fad (go_i m0 (go_f (by rw [k3]; rfl) (go_f (by rw [k3]; rfl) (go_t (by rw [k3]; rfl) (go_fad (go_i m1 (go_fad (go_i m2 (go_fad (go_i m3 ?_))))))))))
    exact e1 _ _
  have er : opR bs a b l.length e d g o = ((false, 0), e, d, g, []) := by unfold opR; rw [if_neg k0, if_neg k1, if_neg k3]
  rw [er]
  refine ⟨H, none, fun R KN => ?_, T, fun _ _ => W, ⟨Nat.le_refl _, fun _ _ _ _ _ _ _ => rfl⟩, fun a ha => by cases ha⟩
  unfold L_alike_p1 L_alike_p1_b
  exact go_fad (go_i m0 (go_f (by rw [beq_eq_false_iff_ne]; exact k0) (go_f (by rw [beq_eq_false_iff_ne]; exact k1) (go_f (by rw [beq_eq_false_iff_ne]; exact k3) rfl))))
end Go.Proofs.Ytblkejnciinaeaa.Sh
