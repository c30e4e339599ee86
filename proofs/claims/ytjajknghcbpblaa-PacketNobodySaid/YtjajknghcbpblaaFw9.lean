/- Each operation of the own machine stands for the model's: append, copy, calls. -/
import Derived.Test.YtjajknghcbpblaaFw8
set_option linter.unusedVariables false
set_option linter.unusedSimpArgs false
namespace Go.Proofs.Ytjajknghcbpblaa.FW
variable {P : Program} {R : Type}
theorem Goes.sub {ρ ρ' : Ren} {hp h1 h2 : Nat → Option Blk} {w w' : World} (g : Goes ρ hp w ρ' h1 w') (hs : ∀ b B, h2 b = some B → h1 b = some B) : Goes ρ hp w ρ' h2 w' :=
  ⟨g.le, ⟨fun b B hb => g.rel.blk b B (hs b B hb), fun b1 B1 b2 B2 x1 d1 x2 d2 k1 k2 => g.rel.inj b1 B1 b2 B2 x1 d1 x2 d2 (hs _ _ k1) (hs _ _ k2)⟩, g.kept, fun b B x d hb => g.ancs b B x d (hs _ _ hb)⟩
section seq
variable {o : Oper} {e : Env} {H : Heap} {K : Value → Heap → Option R} {r : R} {C : Tab R} {made : List (Nat × Nat × Nat)}
theorem slice_exact {ρ : Ren} {p : Option Addr} {l c : Nat} {v' : Value} (q1 : V0 ρ (.slice p l c) v') (hcu : ¬ c = unk) : ∃ p', v' = .slice p' l c ∧ (p = none → p' = none) ∧ ∀ b o s, p = some ⟨b, o, s⟩ → c ≠ 0 → s = none ∧ l ≤ c ∧ ∃ b' d, At ρ b b' d ∧ p' = some ⟨b', d + o, none⟩ := by
  cases p with
  | none => exact ⟨none, q1.nils, fun _ => rfl, fun _ _ _ h _ => by cases h⟩
  | some p =>
    obtain ⟨b1, o1, s1⟩ := p
    by_cases hc0 : c = 0
    · obtain ⟨a', c', k2, k3, k4⟩ := q1.slx
      rcases k3 with k3 | k3
      · subst k3; exact ⟨_, k2, (fun h => by cases h), (fun _ _ _ _ h => (h hc0).elim)⟩
      · exact (hcu k3).elim
    · obtain ⟨rfl, b', d, c', k1, k2, k3, k4, _⟩ := q1.slc (fun h => h.2.elim hc0 (fun h1 => hcu h1.1))
      rcases k3 with k3 | k3
      · subst k3; exact ⟨_, k2, (fun h => by cases h), (fun _ _ _ h _ => by cases h; exact ⟨rfl, k4, _, _, k1, rfl⟩)⟩
      · exact (hcu k3).elim
theorem ok_app {c : Call} {u u' el el' : TypeId} {s x : Operand} {s' x' : X} {z : List Value} {b : Nat} (hc : c.callee = .builtin .append) (ht : c.argTypes.toList = [u, u']) (ha : c.args.toList = [s, x]) (hu : P.underlying u = some (.slice el)) (hu' : P.underlying u' = some (.slice el')) (hz : zer P el = some z) (hs : sz P el = some z.length) (hb : byts P el = some b) (hb0 : b ≠ 0)
    (ho : o.op = .call c) (hx1 : trX s = some s') (hx2 : trX x = some x') (hr : evOp C made (.app z b s' x') e H K = some r) : SeqOK P o e H K r := by
  have ht' : c.argTypes = #[u, u'] := Array.ext' ht
  have ha' : c.args = #[s, x] := Array.ext' ha
  have hm1 : s ∈ o.op.operands := by simp [ho, Op.operands, Call.operands, hc, ha']
  have hm2 : x ∈ o.op.operands := by simp [ho, Op.operands, Call.operands, hc, ha']
  obtain ⟨cs, hrun⟩ := run_builtin P hc ho
  have hrun' : ∀ (a : Act) (w : World) (v' : Value) (w1 : World), (Builtin.append_ #[u, u'] o.type #[a.eval s, a.eval x]).run P w = .ok v' w1 → (execOp a.eval o).run P w = .ok (.value v') w1 := by
    intro a w v' w1 h
    rw [hrun, ht', ha']
    simp [builtin, h]
  have agr : ∀ ρ : Ren, Agree ρ (hblk H) H := fun ρ b _ _ => rfl
  simp only [evOp, happS] at hr
  split at hr
  · rename_i p l cz q n c2 e1 e2
    split at hr
    · rename_i xs hxs
      have grow : ∀ (old : List Value) (H' : Heap), hcells H p (l * z.length) = some old → (l + n) * b ≤ 35184372088832 → (∀ (ρ : Ren) (av : Value), V0 ρ (.slice p l cz) av → (∀ p' c', av = .slice p' l c' → ¬ l + n ≤ c') → True) →
          (∀ b B, hblk (H' ++ [some ⟨old ++ xs, false, z.length⟩]) b = some B → hblk (H ++ [some ⟨old ++ xs, false, z.length⟩]) b = some B) → H'.length = H.length →
          ∀ (ρ : Ren) (w : World) (a : Act) (Q : Exit → Act → World → Prop), Rel ρ (hblk H) w → Dom ρ H.length → Reads ρ e a o → (∀ p' c', a.eval s = .slice p' l c' → ¬ l + n ≤ c') →
            o.wp P a w (SP o a ρ H w (.slice (some ⟨H.length, 0, none⟩) (l + n) unk) (H' ++ [some ⟨old ++ xs, false, z.length⟩])) Q := by
        intro old H' hold hbig _ hsub hlen ρ w a Q hR hD hE hfull
        have q1 := vx hE hx1 hm1
        have q2 := vx hE hx2 hm2
        rw [e1] at q1; rw [e2] at q2
        obtain ⟨arr, cap, w1, g1, g0, g2, g3, g4, g5, g6, g7⟩ := append_grows (P := P) (t := o.type) hR (agr ρ) hu hu' hz hs hb hb0 q1 q2 hold hxs hbig hfull
        have hn : ρ H.length = none := hD _ (Nat.le_refl _)
        have hg := new_goes (n := H.length) (m := cap) (bz := z.length) hR hn g1 g0 (by rw [List.all_append, hcells_one hR (agr ρ) q1 (fun h => by rw [h, Nat.zero_mul]) hold, hcells_one hR (agr ρ) q2 (fun h => by rw [h, Nat.zero_mul]) hxs]; rfl) g4 g5 g6 g7
        rw [← hblk_append] at hg
        refine wp_of_run (hrun' a w _ _ g3) ⟨_, _, rfl, .of (.slc ⟨cap, by simp⟩ (.inr rfl) g2 (fun _ _ => by simp [cp])), hg.sub hsub, fun b hb => ?_⟩
        by_cases c : b = H.length
        · exact .inr (by simp [hlen]; omega)
        · simp only [c, if_false] at hb; exact .inl hb
      unfold happ at hr
      split at hr
      · rename_i hcu
        split at hr
        · rename_i pb po ps
          split at hr
          · rename_i B hB
            cases hro : B.ro with
            | true => rw [hro] at hr; cases hr
            | false =>
              rw [hro, cond_false] at hr
              split at hr
              · rename_i hcond
                obtain ⟨rfl, hl, hbz, hbig⟩ := hcond
                have hlt := hblk_lt hB
                have hold : hcells H (some ⟨pb, 0, ps⟩) (l * z.length) = some B.cells := by
                  unfold hcells
                  split
                  · rename_i h0; rw [h0] at hl; rw [List.eq_nil_of_length_eq_zero hl.symm]
                  · simp [hB, hl]
                refine ⟨_, _, hr, by simp [hset_length], fun ρ w a Q hR hD hE => ?_⟩
                have q1 := vx hE hx1 hm1
                have q2 := vx hE hx2 hm2
                rw [e1] at q1; rw [e2] at q2
                obtain ⟨rfl, b', d, c', k1, k2, k3, k4, k5⟩ := q1.slc (fun h0 => h0.2.elim (fun h1 => by rw [hcu] at h1; simp [unk] at h1) (fun h1 => by have := h1.2.1; omega))
                obtain ⟨m, arr, el2, rfl, h2, h3, h4, h5, h6, h7⟩ := live_parts hR hB hro k1
                have hc'm : c' ≤ m := by have := k5 hcu rfl; simpa [cp, h2] using this
                have hsub : ∀ b2 B2, hblk (hset H pb none ++ [some ⟨B.cells ++ xs, false, z.length⟩]) b2 = some B2 → hblk (H ++ [some ⟨B.cells ++ xs, false, z.length⟩]) b2 = some B2 := by
                  intro b2 B2 h
                  rw [hblk_append] at h ⊢
                  unfold hpu at h ⊢
                  rw [hset_length] at h
                  split at h
                  · rename_i hh; rw [if_pos hh]; exact h
                  · rename_i hh
                    rw [if_neg hh]
                    rw [hset_get] at h
                    split at h
                    · cases h
                    · exact h
                by_cases hfit : l + n ≤ c'
                · obtain ⟨q', c2', zs, f1, f2, f3, f4⟩ := hcells_rel (P := P) hR (agr ρ) q2 (fun h => by simp [h]) hxs
                  have hroom : l * z.length + zs.length ≤ arr.size := by
                    have i1 : zs.length = n * z.length := by rw [← f2.1, f3]
                    have i2 : (l + n) * z.length ≤ m * z.length := Nat.mul_le_mul_right _ (by omega)
                    rw [Nat.add_mul] at i2
                    rw [hbz] at h6
                    omega
                  have hxone := hcells_one hR (agr ρ) q2 (fun h => by rw [h, Nat.zero_mul]) hxs
                  have hnew : ρ H.length = none := hD _ (Nat.le_refl _)
                  have hpne : pb ≠ H.length := by omega
                  have hll : l * z.length = B.cells.length := hl
                  let ρ' : Ren := fun b => if b = H.length then some (b', 0, m) else ρ b
                  have hle' : Le ρ ρ' := by
                    intro b x hb
                    show (if b = H.length then _ else _) = _
                    rw [if_neg (by rintro rfl; rw [hnew] at hb; cases hb)]; exact hb
                  have hst := run_storeCells_at P b' (l * z.length) el2 zs 0 arr w h3 (by omega) (oneCs_rel f2 hxone)
                  have hg := write_goes (n' := H.length) (ρ' := ρ') (bz := z.length) (cells' := B.cells ++ xs) (o := l * z.length) (vs' := zs) hR hB hro h2 h3 hroom hle' (by simp [ρ']) (by rw [hbz] at h6; exact h6)
                    (by rw [List.all_append, h7, hxone]; rfl) (hp' := hblk (hset H pb none ++ [some ⟨B.cells ++ xs, false, z.length⟩])) (fun c => by
                      rw [hblk_append]; unfold hpu; rw [hset_length]
                      by_cases e : c = H.length
                      · subst e; simp [hblk]
                      · rw [if_neg e, if_neg (by simp; omega), hset_get]
                        by_cases e2 : c = pb
                        · subst e2; simp [hlt]
                        · simp [e2]) (fun c B' hne _ x hx => by simpa [ρ', hne] using hx) (fun i v hi => by
                      rw [List.append_assoc]
                      have hlen : (arr.toList.take (l * z.length)).length = l * z.length := by simp; omega
                      rw [List.getElem?_append] at hi ⊢
                      rw [hlen]
                      rw [hll] at hlen ⊢
                      split at hi
                      · rename_i hh
                        rw [if_pos hh]
                        obtain ⟨y, g1, g2⟩ := h4.get hi
                        exact ⟨y, g1, g2⟩
                      · rename_i hh
                        rw [if_neg hh]
                        obtain ⟨y, g1, g2⟩ := f2.get hi
                        exact ⟨y, by rw [List.getElem?_append_left (List.getElem?_eq_some_iff.1 g1).1]; exact g1, g2⟩)
                  have k6 := f4 w z.length n rfl rfl
                  refine wp_of_run (hrun' a w (.slice (some ⟨b', 0 + 0, none⟩) (l + n) c') _ ?_) ⟨ρ', _, rfl, .of (.slc ⟨m, by simp [ρ']⟩ (.inr rfl) hfit (fun _ _ => by simp [cp, ρ']; exact hc'm)), hg, fun b hb => ?_⟩
                  · rw [k2, f1]
                    rw [f1] at k6
                    unfold Builtin.append_
                    simp [run_underlying hu, run_underlying hu', sz_info hs, Builtin.lenOf, hfit, k6, add_eq]
                    simp at hst
                    rw [hst]
                    simp
                  · by_cases c : b = H.length
                    · exact .inr (by simp [hset_length]; omega)
                    · simp only [ρ', c, if_false] at hb; exact .inl hb
                · exact grow B.cells (hset H pb none) hold hbig (fun _ _ _ _ => trivial) hsub (hset_length _ _ _) ρ w a Q hR hD hE (fun p' c'' he => by rw [k2] at he; cases he; exact hfit)
              · cases hr
          · cases hr
        · cases hr
      · rename_i hcu
        split at hr
        · rename_i hfit
          split at hr
          · rename_i hn
            subst hn
            refine ⟨_, _, hr, Nat.le_refl _, fun ρ w a Q hR hD hE => ?_⟩
            have q1 := vx hE hx1 hm1
            have q2 := vx hE hx2 hm2
            rw [e1] at q1; rw [e2] at q2
            obtain ⟨q', c2', zs, f1, f2, f3, f4⟩ := hcells_rel (P := P) hR (agr ρ) q2 (fun h => by simp [h]) hxs
            obtain ⟨p', k1, _⟩ := slice_exact q1 hcu
            have k5 := f4 w z.length 0 rfl (by simp)
            have h0 : zs = [] := by have := f2.1; rw [f3] at this; simp at this; exact List.eq_nil_of_length_eq_zero this.symm
            subst h0
            refine wp_of_run (hrun' a w (a.eval s) w ?_) ⟨ρ, _, rfl, q1, .refl hR, .refl _ _ _⟩
            rw [k1, f1]
            rw [f1] at k5
            unfold Builtin.append_
            simp at hfit
            cases p' with
            | none => simp [run_underlying hu, run_underlying hu', sz_info hs, Builtin.lenOf, hfit, k5]
            | some p' => simp [run_underlying hu, run_underlying hu', sz_info hs, Builtin.lenOf, hfit, k5, storeCells]
          · rename_i hn
            obtain ⟨b1, o1, s1, B, hp, hB, hro, hle, hone, hk⟩ := hst_ok hr
            cases p with
            | none => simp [pad] at hp
            | some p =>
              obtain ⟨b2, o2, s2⟩ := p
              simp only [pad] at hp; cases hp
              refine ⟨_, _, hk, by rw [hset_length]; exact Nat.le_refl _, fun ρ w a Q hR hD hE => ?_⟩
              have q1 := vx hE hx1 hm1
              have q2 := vx hE hx2 hm2
              rw [e1] at q1; rw [e2] at q2
              obtain ⟨q', c2', zs, f1, f2, f3, f4⟩ := hcells_rel (P := P) hR (agr ρ) q2 (fun h => by simp [h]) hxs
              obtain ⟨p', k1, _, k3⟩ := slice_exact q1 hcu
              obtain ⟨rfl, hlc, b', d, k4, rfl⟩ := k3 _ _ _ rfl (by omega)
              obtain ⟨rfl, w', g1, g2⟩ := store_goes (P := P) hR hB hro k4 f2 hle hone
              have k5 := f4 w z.length n rfl rfl
              refine wp_of_run (hrun' a w (.slice (some ⟨b', 0 + o2, none⟩) (l + n) cz) w' ?_) ⟨ρ, _, rfl, .of (.slc k4 (.inl rfl) hfit (fun h => (hcu h).elim)), g2, .refl _ _ _⟩
              rw [k1, f1]
              rw [f1] at k5
              unfold Builtin.append_
              simp [run_underlying hu, run_underlying hu', sz_info hs, Builtin.lenOf, hfit, k5, add_eq, g1]
        · rename_i hfit
          split at hr
          · rename_i hbig
            split at hr
            · rename_i old hold
              refine ⟨_, _, hr, by simp, fun ρ w a Q hR hD hE => grow old H hold hbig (fun _ _ _ _ => trivial) (fun _ _ h => h) rfl ρ w a Q hR hD hE (fun p' c' he => ?_)⟩
              have q1 := vx hE hx1 hm1
              rw [e1] at q1
              obtain ⟨p2, k1, _⟩ := slice_exact q1 hcu
              rw [k1] at he; cases he; exact hfit
            · cases hr
          · cases hr
    · cases hr
  · cases hr
end seq
end Go.Proofs.Ytjajknghcbpblaa.FW
