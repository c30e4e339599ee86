/- Each operation of the own machine stands for the model's: slices, make, append to what is full, equality of structs. -/
import Derived.Test.YtjajknghcbpblaaFw6
set_option linter.unusedVariables false
set_option linter.unusedSimpArgs false
namespace Go.Proofs.Ytjajknghcbpblaa.FW
variable {P : Program} {R : Type}
theorem sliceBound_run (k : IntKind) (i : Int) (y : Nat) (code : BoundsCode) (h0 : 0 ≤ i) (h : i ≤ y) (w : World) : (Instr.sliceBound (.int k i) y code).run P w = .ok i.toNat w := by
  simp [Instr.sliceBound, asIntOf, h0, h]
theorem bounds_run (isS : Bool) (l c : Nat) (lo hi mx : Option Int) (k1 k2 k3 : IntKind) (hh : mx.isSome = true → hi.isSome = true) (h1 : 0 ≤ lo.getD 0) (h2 : lo.getD 0 ≤ hi.getD l) (h3 : hi.getD l ≤ mx.getD c) (h4 : mx.getD c ≤ c) (w : World) :
    (Instr.sliceBounds isS l c (lo.map (.int k1)) (hi.map (.int k2)) (mx.map (.int k3))).run P w = .ok ((lo.getD 0).toNat, (hi.getD l).toNat, (mx.getD c).toNat) w := by
  have t : ∀ (m : Int), 0 ≤ m → (m.toNat : Int) = m := fun m h => Int.toNat_of_nonneg h
  cases lo with
  | none =>
    cases hi with
    | none =>
      cases mx with
      | none => simp [Instr.sliceBounds]
      | some m => simp at hh
    | some h =>
      simp at h2 h3
      cases mx with
      | none => simp at h3; simp [Instr.sliceBounds, sliceBound_run, h2, h3]
      | some m => simp at h3 h4; simp [Instr.sliceBounds, sliceBound_run, h2, h3, h4, t, show 0 ≤ m from by omega]
  | some q =>
    simp at h1
    cases hi with
    | none =>
      cases mx with
      | none => simp at h2; simp [Instr.sliceBounds, sliceBound_run, h1, h2]
      | some m => simp at hh
    | some h =>
      simp at h2 h3
      have h0 : 0 ≤ h := by omega
      cases mx with
      | none => simp at h3; simp [Instr.sliceBounds, sliceBound_run, h1, h2, h3, h0, t]
      | some m => simp at h3 h4; simp [Instr.sliceBounds, sliceBound_run, h1, h2, h3, h4, h0, t, show 0 ≤ m from by omega]
theorem hslc_ok {size : Nat} {p : Option Addr} {l c : Nat} {lo hi mx : Option Int} {K : Option Addr → Nat → Nat → Option R} {r : R} (h : hslc size p l c lo hi mx K = some r) :
    ∃ p2 l2 c2, K p2 l2 c2 = some r ∧ ∀ (ρ : Ren) (v' : Value), V0 ρ (.slice p l c) v' → ∃ p' c', v' = .slice p' l c' ∧ 0 ≤ lo.getD 0 ∧ lo.getD 0 ≤ hi.getD l ∧ hi.getD l ≤ mx.getD c' ∧ mx.getD c' ≤ c' ∧
      VRel ρ (.slice p2 l2 c2) (.slice (if (mx.getD c').toNat = (lo.getD 0).toNat then p' else p'.map (·.add ((lo.getD 0).toNat * size))) ((hi.getD l).toNat - (lo.getD 0).toNat) ((mx.getD c').toNat - (lo.getD 0).toNat)) := by
  unfold hslc at h
  simp only [] at h
  generalize lo.getD 0 = lw at h ⊢
  generalize hi.getD (l : Int) = hw at h ⊢
  rcases Classical.em (0 ≤ lw ∧ lw ≤ hw ∧ hw ≤ mx.getD (c : Int) ∧ (if c = unk then plainP p = true ∧ ((mx.isSome = true ∧ mx.getD (c : Int) ≤ l ∧ l < unk) ∨ (mx.isSome = false ∧ hw ≤ l)) else mx.getD (c : Int) ≤ c ∧ c < unk)) with hc | hc
  · rw [if_pos hc] at h
    obtain ⟨g1, g2, g3, g4⟩ := hc
    by_cases hcu : c = unk
    · rw [if_pos hcu] at g4
      obtain ⟨g5, g6⟩ := g4
      cases p with
      | none => simp [plainP] at g5
      | some p =>
        obtain ⟨b, o, s⟩ := p
        have hs0 : s = none := by cases s with
          | none => rfl
          | some x => simp [plainP] at g5
        subst hs0
        cases mx with
        | none =>
          simp at g6
          rw [if_pos ⟨hcu, rfl⟩] at h
          split at h
          · rename_i hlw
            refine ⟨_, _, _, h, fun ρ v' hv => ?_⟩
            obtain ⟨_, b', d, c', k1, k2, k3, k4, k5⟩ := hv.slc (fun h0 => h0.2.elim (fun h1 => by rw [hcu] at h1; simp [unk] at h1) (fun h1 => by cases h1.2.2))
            refine ⟨_, _, k2, g1, g2, by simp; omega, by simp, ?_⟩
            subst hlw
            have e4 : (if ((none : Option Int).getD (c' : Int)).toNat = (0 : Int).toNat then some (⟨b', d + o, none⟩ : Addr) else (some (⟨b', d + o, none⟩ : Addr)).map (·.add ((0 : Int).toNat * size))) = some ⟨b', d + o, none⟩ := by
              split
              · rfl
              · simp [Addr.add]
            rw [e4]
            exact .slc k1 (.inr rfl) (by simp; omega) (fun _ h => by simpa using k5 hcu h)
          · split at h
            · rename_i hn0 hlt
              refine ⟨_, _, _, h, fun ρ v' hv => ?_⟩
              obtain ⟨_, b', d, c', k1, k2, k3, k4, k5⟩ := hv.slc (fun h0 => h0.2.elim (fun h1 => by rw [hcu] at h1; simp [unk] at h1) (fun h1 => by cases h1.2.2))
              refine ⟨_, _, k2, g1, g2, by simp; omega, by simp, ?_⟩
              have e4 : ((none : Option Int).getD (c' : Int)).toNat ≠ lw.toNat := by simp; omega
              rw [if_neg e4]
              simp only [Option.map_some, add_eq, Nat.add_assoc]
              refine .slc k1 (.inr rfl) (by simp; omega) (fun _ h0 => ?_)
              have : 0 < lw.toNat * size := Nat.mul_pos (by omega) hlt.2
              omega
            · split at h
              · rename_i hn0 hn1 hle
                refine ⟨_, _, _, h, fun ρ v' hv => ?_⟩
                obtain ⟨_, b', d, c', k1, k2, k3, k4, k5⟩ := hv.slc (fun h0 => h0.2.elim (fun h1 => by rw [hcu] at h1; simp [unk] at h1) (fun h1 => by cases h1.2.2))
                refine ⟨_, _, k2, g1, g2, by simp; omega, by simp, ?_⟩
                have e5 : hw.toNat - lw.toNat = 0 := by omega
                rw [e5]
                split
                · exact .sle rfl rfl _ _
                · exact .sle rfl rfl _ _
              · cases h
        | some m =>
          simp at g6 g3
          rw [if_neg (by simp)] at h
          simp at h
          split at h
          · rename_i hm
            refine ⟨_, _, _, h, fun ρ v' hv => ?_⟩
            obtain ⟨_, b', d, c', k1, k2, k3, k4, k5⟩ := hv.slc (fun h0 => h0.2.elim (fun h1 => by rw [hcu] at h1; simp [unk] at h1) (fun h1 => by cases h1.2.2))
            refine ⟨_, _, k2, g1, g2, by simpa using g3, by simp; omega, ?_⟩
            rw [if_pos (by simp [hm])]
            exact .slc k1 (.inl (by simp)) (by simp; omega) (fun h0 => by unfold unk at *; omega)
          · rename_i hm
            refine ⟨_, _, _, h, fun ρ v' hv => ?_⟩
            obtain ⟨_, b', d, c', k1, k2, k3, k4, k5⟩ := hv.slc (fun h0 => h0.2.elim (fun h1 => by rw [hcu] at h1; simp [unk] at h1) (fun h1 => by cases h1.2.2))
            refine ⟨_, _, k2, g1, g2, by simpa using g3, by simp; omega, ?_⟩
            have e5 : ¬ ((some m).getD (c' : Int)).toNat = lw.toNat := by simp; omega
            rw [if_neg e5]
            by_cases z : lw = 0
            · subst z
              have e6 : (⟨b', d + o, none⟩ : Addr).add ((0 : Int).toNat * size) = ⟨b', d + o, none⟩ := by simp [Addr.add]
              simp only [if_true, Option.map_some, e6]
              exact .slc k1 (.inl rfl) (by simp; omega) (fun h0 => by unfold unk at *; omega)
            · simp only [if_neg z, Option.map_some, add_eq, Nat.add_assoc]
              exact .slc k1 (.inl (by simp)) (by simp; omega) (fun h0 => by unfold unk at *; omega)
    · rw [if_neg hcu] at g4
      rw [if_neg (by simp [hcu])] at h
      by_cases hz : l = 0 ∧ c = 0
      · obtain ⟨rfl, rfl⟩ := hz
        have hlw : lw = 0 := by omega
        have hhw : hw = 0 := by omega
        have hmx : mx.getD ((0 : Nat) : Int) = 0 := by omega
        rw [hmx, hlw, hhw] at h
        rw [if_pos rfl] at h
        refine ⟨_, _, _, h, fun ρ v' hv => ?_⟩
        cases p with
        | none => exact ⟨none, 0, hv.nils, by omega, by omega, by omega, by omega, by rw [hmx, hlw, hhw, if_pos rfl]; exact .nils _ _⟩
        | some p =>
          obtain ⟨a', c', k1, k2, _⟩ := hv.slx
          rcases k2 with rfl | k2
          · exact ⟨some a', 0, k1, by omega, by omega, by omega, by omega, by rw [hmx, hlw, hhw, if_pos rfl]; exact .slz _ _⟩
          · exact (hcu k2).elim
      have key : ∀ (ρ : Ren) (v' : Value), V0 ρ (.slice p l c) v' → ∃ p', v' = .slice p' l c ∧ (∀ b o s, p = some ⟨b, o, s⟩ → s = none ∧ ∃ b' d, At ρ b b' d ∧ p' = some ⟨b', d + o, none⟩) ∧ (p = none → p' = none) := by
        intro ρ v' hv
        cases p with
        | none => exact ⟨none, hv.nils, fun _ _ _ h => by (cases h), fun _ => rfl⟩
        | some p =>
          obtain ⟨b, o, s⟩ := p
          obtain ⟨rfl, b', d, c', k1, k2, k3, k4, k5⟩ := hv.slc (fun h0 => h0.2.elim (fun h1 => hz ⟨h0.1, h1⟩) (fun h1 => hcu h1.1))
          rcases k3 with k3 | k3
          · subst k3; exact ⟨_, k2, fun _ _ _ h => by cases h; exact ⟨rfl, _, _, k1, rfl⟩, fun h => by cases h⟩
          · exact (hcu k3).elim
      split at h
      · rename_i hm
        refine ⟨_, _, _, h, fun ρ v' hv => ?_⟩
        obtain ⟨p', k1, k2, k3⟩ := key ρ v' hv
        refine ⟨p', c, k1, g1, g2, g3, g4.1, ?_⟩
        rw [if_pos (by rw [hm])]
        cases p with
        | none => rw [k3 rfl]; exact .nils _ _
        | some p =>
          obtain ⟨b, o, s⟩ := p
          obtain ⟨rfl, b', d, k4, rfl⟩ := k2 b o s rfl
          exact .slc k4 (.inl rfl) (by omega) (fun h0 => by have := g4.2; unfold unk at *; omega)
      · rename_i hm
        refine ⟨_, _, _, h, fun ρ v' hv => ?_⟩
        obtain ⟨p', k1, k2, k3⟩ := key ρ v' hv
        refine ⟨p', c, k1, g1, g2, g3, g4.1, ?_⟩
        rw [if_neg (by omega)]
        cases p with
        | none => rw [k3 rfl]; exact .nils _ _
        | some p =>
          obtain ⟨b, o, s⟩ := p
          obtain ⟨rfl, b', d, k4, rfl⟩ := k2 b o s rfl
          by_cases z : lw = 0
          · subst z
            simp [Addr.add]
            exact .slc k4 (.inl rfl) (by omega) (fun h0 => by have := g4.2; unfold unk at *; omega)
          · dsimp only
            rw [if_neg z]
            simp only [Option.map_some, add_eq, Nat.add_assoc]
            exact .slc k4 (.inl rfl) (by omega) (fun h0 => by have := g4.2; unfold unk at *; omega)
  · rw [if_neg hc] at h; cases h
section pure
variable {o : Oper} {e : Env} {H : Heap} {K : Value → Heap → Option R} {r : R} {cr : Bool} {C : Tab R} {made : List (Nat × Nat × Nat)}
theorem optInt_rel {ρ : Ren} {a : Act} (hE : Reads ρ e a o) {x : Option Operand} {x' : Option X} {n : Option Int} (hx : trXo x = some x') (hm : ∀ y, x = some y → y ∈ o.op.operands) (hn : optInt e x' = some n) : ∃ k, x.map a.eval = n.map (.int k) := by
  cases x with
  | none => simp [trXo] at hx; subst hx; simp [optInt] at hn; subst hn; exact ⟨.i64, rfl⟩
  | some x =>
    simp only [trXo] at hx
    split at hx
    · rename_i y hy
      cases hx
      simp only [optInt] at hn
      split at hn
      · rename_i k m hv
        cases hn
        have := vx hE hy (hm x rfl)
        rw [hv] at this
        exact ⟨k, by simp [this.int]⟩
      · cases hn
    · cases hx
theorem ok_slc {u el : TypeId} {x : Operand} {lo hi mx : Option Operand} {x' : X} {lo' hi' mx' : Option X} {n : Nat} (hu : P.underlying u = some (.slice el)) (hs : sz P el = some n) (hh : mx'.isSome = true → hi'.isSome = true)
    (ho : o.op = .slice u x lo hi mx) (hx : trX x = some x') (h1 : trXo lo = some lo') (h2 : trXo hi = some hi') (h3 : trXo mx = some mx') (hr : evOp C made (.slc n x' lo' hi' mx') e H K = some r) : LocalOK P o e H K r cr := by
  simp only [evOp] at hr
  split at hr
  · rename_i p l c e1
    split at hr
    · rename_i ln hn mn q1 q2 q3
      obtain ⟨p2, l2, c2, k1, k2⟩ := hslc_ok hr
      refine pure_ok _ k1 fun ρ hp w a _ _ hE => ?_
      have q := vx hE hx (by simp [ho, Op.operands])
      rw [e1] at q
      obtain ⟨p', c', f1, f2, f3, f4, f5, f6⟩ := k2 ρ _ q
      obtain ⟨ka, ea⟩ := optInt_rel hE h1 (fun y hy => by subst hy; simp [ho, Op.operands]) q1
      obtain ⟨kb, eb⟩ := optInt_rel hE h2 (fun y hy => by subst hy; simp [ho, Op.operands]) q2
      obtain ⟨kc, ec⟩ := optInt_rel hE h3 (fun y hy => by subst hy; simp [ho, Op.operands]) q3
      have hh' : mn.isSome = true → hn.isSome = true := by
        intro hm
        have : mx'.isSome = true := by
          cases mx' with
          | none => simp [optInt] at q3; subst q3; cases hm
          | some _ => rfl
        have := hh this
        cases hi' with
        | none => cases this
        | some y => simp only [optInt] at q2; split at q2 <;> cases q2; rfl
      refine ⟨_, .of f6, ?_⟩
      simp only [execOp, ho, f1, ea, eb, ec, Instr.sliceAt, Sem.run_bind, run_underlying hu, Result.andThen_ok, Instr.slice, bounds_run true l c' ln hn mn ka kb kc hh' f2 f3 f4 f5, sz_info hs, Sem.run_pure]
    · cases hr
  · cases hr
theorem ok_sla_aux {u el : TypeId} {x : Operand} {lo hi mx : Option Operand} {x' : X} {lo' hi' mx' : Option X} {n m : Nat} {p : Addr} {ln hn mn : Option Int} (hu : P.underlying u = some (.array m el)) (hs : sz P el = some n) (hh : mx'.isSome = true → hi'.isSome = true)
    (ho : o.op = .slice u x lo hi mx) (hx : trX x = some x') (h1 : trXo lo = some lo') (h2 : trXo hi = some hi') (h3 : trXo mx = some mx') (e1 : gx e x' = .pointer (some p)) (q1 : optInt e lo' = some ln) (q2 : optInt e hi' = some hn) (q3 : optInt e mx' = some mn) (hmu : Nat.beq m unk = false)
    (hr : hslc n (some p) m m ln hn mn (fun p l c => K (.slice p l c) H) = some r) : LocalOK P o e H K r cr := by
  obtain ⟨p2, l2, c2, k1, k2⟩ := hslc_ok hr
  refine pure_ok _ k1 fun ρ hp w a _ _ hE => ?_
  have q := vx hE hx (by simp [ho, Op.operands])
  rw [e1] at q
  obtain ⟨b, o', s⟩ := p
  obtain ⟨rfl, b', d, g1, g2⟩ := q.ptr
  obtain ⟨p', c', f1, f2, f3, f4, f5, f6⟩ := k2 ρ (.slice (some ⟨b', d + o', none⟩) m m) (.of (.slc g1 (.inl rfl) (Nat.le_refl _) (fun h => by rw [h] at hmu; simp at hmu)))
  cases f1
  obtain ⟨ka, ea⟩ := optInt_rel hE h1 (fun y hy => by subst hy; simp [ho, Op.operands]) q1
  obtain ⟨kb, eb⟩ := optInt_rel hE h2 (fun y hy => by subst hy; simp [ho, Op.operands]) q2
  obtain ⟨kc, ec⟩ := optInt_rel hE h3 (fun y hy => by subst hy; simp [ho, Op.operands]) q3
  have hh' : mn.isSome = true → hn.isSome = true := by
    intro hm
    have : mx'.isSome = true := by
      cases mx' with
      | none => simp [optInt] at q3; subst q3; cases hm
      | some _ => rfl
    have := hh this
    cases hi' with
    | none => cases this
    | some y => simp only [optInt] at q2; split at q2 <;> cases q2; rfl
  refine ⟨_, .of f6, ?_⟩
  simp only [execOp, ho, g2, ea, eb, ec, Instr.sliceAt, Sem.run_bind, run_underlying hu, Result.andThen_ok, Instr.sureAddr, bounds_run false m m ln hn mn ka kb kc hh' f2 f3 f4 f5, sz_info hs, Sem.run_pure]
  congr 2
  split <;> rfl
theorem ok_sla {u el : TypeId} {x : Operand} {lo hi mx : Option Operand} {x' : X} {lo' hi' mx' : Option X} {n m : Nat} (hu : P.underlying u = some (.array m el)) (hs : sz P el = some n) (hh : mx'.isSome = true → hi'.isSome = true)
    (ho : o.op = .slice u x lo hi mx) (hx : trX x = some x') (h1 : trXo lo = some lo') (h2 : trXo hi = some hi') (h3 : trXo mx = some mx') (hr : evOp C made (.sla m n x' lo' hi' mx') e H K = some r) : LocalOK P o e H K r cr := by
  simp only [evOp] at hr
  split at hr
  · rename_i p e1
    split at hr
    · rename_i ln hn mn q1 q2 q3
      unfold hsla at hr
      split at hr
      · rename_i p
        cases hmu : Nat.beq m unk with
        | true => rw [hmu] at hr; cases hr
        | false =>
        rw [hmu, cond_false] at hr
        exact ok_sla_aux hu hs hh ho hx h1 h2 h3 e1 q1 q2 q3 hmu hr
      · cases hr
    · cases hr
  · cases hr
theorem ok_mks {u el : TypeId} {l c : Operand} {l' c' : X} {n b : Nat} {z : List Value} (hu : P.underlying u = some (.slice el)) (hz : zer P el = some z) (hs : sz P el = some n) (hb : byts P el = some b) (hn : n = z.length) (hn0 : n ≠ 0) (hf : z.all ptrFreeC = true)
    (ho : o.op = .makeSlice u l c) (hl : trX l = some l') (hc : trX c = some c') (hr : evOp C made (.mks z b l' c') e H K = some r) : LocalOK P o e H K r true := by
  simp only [evOp] at hr
  split at hr
  · rename_i k1 ln k2 cn e1 e2
    simp only [hmk] at hr
    split at hr
    · rename_i hcond
      obtain ⟨g1, g2, g3, g4⟩ := hcond
      obtain ⟨it, zv, h1, h2, h3⟩ := zer_info hz
      have hz0 : zv.cells.toList ≠ [] := by rw [h3]; intro h; rw [h] at hn; exact hn0 hn
      have hzs : zv.cells.size = n := by rw [hn, ← h3]; simp
      have hit : it.size = n ∧ it.bytes = b := by
        unfold sz at hs; unfold byts at hb; rw [h1] at hs hb; simp at hs hb; exact ⟨hs, hb⟩
      refine new_ok _ _ 0 (fun _ _ _ _ _ _ => by rw [mk_eq]; exact oneCs_of (rep_free hf _)) hr fun ρ hp w a _ _ hE => ?_
      have q1 := vx hE hl (by simp [ho, Op.operands])
      have q2 := vx hE hc (by simp [ho, Op.operands])
      rw [e1] at q1; rw [e2] at q2
      have w1 : IntKind.i64.wrap ln = ln := IntWalk.i64_in _ (by omega)
      have w2 : IntKind.i64.wrap cn = cn := IntWalk.i64_in _ (by omega)
      let zz : Array Value := if cn.toNat * n = 0 then (#[] : Array Value) else zv.cells
      have hzero : ((Array.range (cn.toNat * n)).map (zz[· % zz.size]!)).toList = rep z cn.toNat := by
        by_cases cc : cn.toNat * n = 0
        · have : cn.toNat = 0 := by rcases Nat.mul_eq_zero.1 cc with h | h; exact h; exact (hn0 h).elim
          rw [this]
          simp [rep]
        · simp only [zz, if_neg cc]
          rw [made_cells (n := cn.toNat) hz0 (by rw [hzs]), h3]
      refine ⟨(Array.range (cn.toNat * n)).map (zz[· % zz.size]!), el, .slice (some ⟨w.heap.size, 0, none⟩) ln.toNat cn.toNat, { w with heap := w.heap.push (.cells ((Array.range (cn.toNat * n)).map (zz[· % zz.size]!)) el) }, 0, fun j y hj => ?_, by simp, fun ρ' h => .of (.slc ⟨_, h⟩ (.inl rfl) (by omega) (fun h => by unfold unk at h; omega)), ?_, rfl, rfl, rfl, rfl⟩
      · rw [mk_eq, ← hzero] at hj
        refine ⟨y, by rw [← Array.getElem?_toList]; exact hj, ?_⟩
        have hm : y ∈ rep z cn.toNat := by rw [← hzero]; exact List.mem_of_getElem? hj
        have := List.all_eq_true.1 (rep_free hf cn.toNat) y hm
        exact VRel.self (ptrFree_of this) (okv_of this) ρ
      · have t1 : ¬ cn < 0 := by omega
        have t2 : ¬ (281474976710656 < (b : Int) * cn) := by rw [Int.mul_comm]; omega
        have t3 : ¬ ln < 0 := by omega
        have t4 : ¬ cn < ln := by omega
        by_cases cc : cn.toNat * n = 0
        · simp [execOp, ho, q1.int, q2.int, Instr.makeSlice, run_underlying hu, asInt, asIntOf, typeInfo, h1, hit.2, w1, w2, t1, t2, t3, t4, sizeOf, hit.1, cc, newRow, newObj, Sem.run, zz]
        · simp [execOp, ho, q1.int, q2.int, Instr.makeSlice, run_underlying hu, asInt, asIntOf, typeInfo, h1, hit.2, w1, w2, t1, t2, t3, t4, sizeOf, hit.1, cc, newRow, newObj, Sem.run, zz, zeroValue, h2]
    · cases hr
  · cases hr
def eqB (cs ds : List Value) : List (Nat × Nat) → Option Bool
  | [] => some true
  | (o, k) :: os =>
    match k, cs[o]?, ds[o]? with
    | 0, some (.int k a), some (.int k' b) => bif ikeq k k' then (eqB cs ds os).map ((a == b) && ·) else none
    | 1, some (.bool a), some (.bool b) => (eqB cs ds os).map ((a == b) && ·)
    | 2, some (.string a), some (.string b) => (eqB cs ds os).map ((a == b) && ·)
    | _, _, _ => none
theorem eqCells_ok {cs ds : List Value} {K' : Bool → Option R} : ∀ {os : List (Nat × Nat)} {acc : Bool}, eqCells cs ds os acc K' = some r → ∃ b, eqB cs ds os = some b ∧ K' (acc && b) = some r := by
  intro os
  induction os with
  | nil => intro acc h; exact ⟨true, rfl, by simpa [eqCells] using h⟩
  | cons o os ih =>
    obtain ⟨o, kd⟩ := o
    intro acc h
    simp only [eqCells] at h
    split at h
    · rename_i k a k' b h1 h2
      cases hk : ikeq k k' with
      | false => rw [hk] at h; cases h
      | true =>
        rw [hk, cond_true] at h
        obtain ⟨q, h3, h4⟩ := ih h
        exact ⟨(a == b) && q, by simp [eqB, h1, h2, h3, hk], by rw [← Bool.and_assoc]; exact h4⟩
    · rename_i a b h1 h2
      obtain ⟨q, h3, h4⟩ := ih h
      exact ⟨(a == b) && q, by simp [eqB, h1, h2, h3], by rw [← Bool.and_assoc]; exact h4⟩
    · rename_i a b h1 h2
      obtain ⟨q, h3, h4⟩ := ih h
      exact ⟨(a == b) && q, by simp [eqB, h1, h2, h3], by rw [← Bool.and_assoc]; exact h4⟩
    · cases h
theorem part_scalar {t : TypeId} {d : TypeDesc} (hd : P.underlying t = some d) (hA : isAg P t = false) {xs : Array Value} {off : Nat} {x : Value} (hx : xs.toList[off]? = some x) (w : World) : (part t xs off).run P w = .ok x w := by
  have h1' : xs[off]? = some x := by simpa using hx
  simp [part, isAgg_run hd, hA, h1']
theorem scalarOff_ok {f : Field} {o' kd : Nat} (h : scalarOff P f = some (o', kd)) : f.name ≠ "_" ∧ f.offset = o' ∧ ((kd = 0 ∧ ∃ k, P.underlying f.type = some (.int k)) ∨ (kd = 1 ∧ P.underlying f.type = some .bool) ∨ (kd = 2 ∧ P.underlying f.type = some .string)) := by
  unfold scalarOff at h
  split at h
  · rename_i k hk
    cases hn : f.name == "_" with
    | true => rw [hn] at h; cases h
    | false => rw [hn] at h; cases h; exact ⟨by simpa using hn, rfl, .inl ⟨rfl, k, hk⟩⟩
  · rename_i hk
    cases hn : f.name == "_" with
    | true => rw [hn] at h; cases h
    | false => rw [hn] at h; cases h; exact ⟨by simpa using hn, rfl, .inr (.inl ⟨rfl, hk⟩)⟩
  · rename_i hk
    cases hn : f.name == "_" with
    | true => rw [hn] at h; cases h
    | false => rw [hn] at h; cases h; exact ⟨by simpa using hn, rfl, .inr (.inr ⟨rfl, hk⟩)⟩
  · cases h
theorem eqFields_run {ρ : Ren} {cs ds : List Value} {xs ys : Array Value} (hx : LRel ρ cs xs.toList) (hy : LRel ρ ds ys.toList) : ∀ {fs : List Field} {os : List (Nat × Nat)} {b : Bool}, offs P fs = some os → eqB cs ds os = some b → ∀ w, (Op.eqFields (9998 + 1) xs ys fs).run P w = .ok b w := by
  intro fs
  induction fs with
  | nil => intro os b h1 h2 w; simp [offs] at h1; subst h1; simp [eqB] at h2; subst h2; simp [Op.eqFields]
  | cons f fs ih =>
    intro os b h1 h2 w
    simp only [offs] at h1
    split at h1
    · rename_i o' os' g1 g2
      cases h1
      obtain ⟨o', kd⟩ := o'
      obtain ⟨n1, rfl, n3⟩ := scalarOff_ok g1
      have hd : ∃ d, P.underlying f.type = some d ∧ isAg P f.type = false := by
        rcases n3 with ⟨_, k, h⟩ | ⟨_, h⟩ | ⟨_, h⟩ <;> exact ⟨_, h, by simp [isAg, h]⟩
      obtain ⟨d, hd1, hd2⟩ := hd
      simp only [eqB] at h2
      have fin : ∀ (q : Bool), (∀ w, (Op.eqFields (9998 + 1) xs ys fs).run P w = .ok q w) → ∀ (x y : Value) (c : Bool), xs.toList[f.offset]? = some x → ys.toList[f.offset]? = some y → (∀ w, (Op.equalIn (9998 + 1) f.type x y).run P w = .ok c w) → (Op.eqFields (9998 + 1) xs ys (f :: fs)).run P w = .ok (c && q) w := by
        intro q hq x y c hx' hy' hc
        simp only [Op.eqFields]
        rw [if_pos n1]
        simp only [Sem.run_bind, part_scalar hd1 hd2 hx', part_scalar hd1 hd2 hy', Result.andThen_ok, hc, Sem.run_ite]
        cases c <;> simp [hq]
      split at h2
      · rename_i k a k' b' e1 e2
        cases hk : ikeq k k' with
        | false => rw [hk] at h2; cases h2
        | true =>
        rw [hk, cond_true] at h2
        have := ikeq_eq hk
        subst this
        obtain ⟨q, h3, rfl⟩ := Option.map_eq_some_iff.1 h2
        obtain ⟨x, i1, i2⟩ := hx.get e1
        obtain ⟨y, j1, j2⟩ := hy.get e2
        cases i2; cases j2
        obtain ⟨kk, h⟩ : ∃ k, P.underlying f.type = some (.int k) := by
          rcases n3 with ⟨_, h⟩ | ⟨h, _⟩ | ⟨h, _⟩
          · exact h
          · cases h
          · cases h
        exact fin q (ih g2 h3) _ _ _ i1 j1 (fun w => run_equalIn_int w _ _ _ _ _ _ h)
      · rename_i a b' e1 e2
        obtain ⟨q, h3, rfl⟩ := Option.map_eq_some_iff.1 h2
        obtain ⟨x, i1, i2⟩ := hx.get e1
        obtain ⟨y, j1, j2⟩ := hy.get e2
        cases i2; cases j2
        have h : P.underlying f.type = some .bool := by
          rcases n3 with ⟨h, _⟩ | ⟨_, h⟩ | ⟨h, _⟩
          · cases h
          · exact h
          · cases h
        exact fin q (ih g2 h3) _ _ _ i1 j1 (fun w => run_equalIn_bool w _ _ _ _ h)
      · rename_i a b' e1 e2
        obtain ⟨q, h3, rfl⟩ := Option.map_eq_some_iff.1 h2
        obtain ⟨x, i1, i2⟩ := hx.get e1
        obtain ⟨y, j1, j2⟩ := hy.get e2
        cases i2; cases j2
        have h : P.underlying f.type = some .string := by
          rcases n3 with ⟨h, _⟩ | ⟨h, _⟩ | ⟨_, h⟩
          · cases h
          · cases h
          · exact h
        exact fin q (ih g2 h3) _ _ _ i1 j1 (fun w => by rw [beq_toListBytes]; exact run_equalIn_string w _ _ _ _ h)
      · cases h2
    · cases h1
theorem ok_eqs {op : BinOp} {neg : Bool} {t t' : TypeId} {x y : Operand} {x' y' : X} {fs : Array Field} {os : List (Nat × Nat)} (hop : op = if neg then .neq else .eql) (hu : P.underlying t = some (.struct fs)) (hst : P.stoodInHeld t = false) (hg : P.eqGuardType P.depth t = false)
    (hos : offs P fs.toList = some os) (ho : o.op = .binOp op t x y t') (hx : trX x = some x') (hy : trX y = some y') (hr : evOp C made (.eqs os x' y' neg) e H K = some r) : LocalOK P o e H K r cr := by
  simp only [evOp] at hr
  split at hr
  · rename_i cs ds e1 e2
    obtain ⟨b, h1, h2⟩ := eqCells_ok hr
    refine pure_ok _ h2 fun ρ hp w a _ _ hE => ⟨_, .of (.bool _), ?_⟩
    have q1 := vx hE hx (by simp [ho, Op.operands])
    have q2 := vx hE hy (by simp [ho, Op.operands])
    rw [e1] at q1; rw [e2] at q2
    obtain ⟨xs, g1, g2⟩ := q1.agg
    obtain ⟨ys, g3, g4⟩ := q2.agg
    have hf : P.fieldsOf t = fs := by simp [Program.fieldsOf, hu]
    have h3 := eqFields_run g2 g4 hos h1 w
    have h4 : (Op.equalIn 10000 t (.agg xs) (.agg ys)).run P w = .ok b w := by
      rw [show (10000 : Nat) = 9999 + 1 from rfl, run_equalIn_struct w 9999 t xs ys (by rw [hf]; exact hu) hst, hf]
      exact h3
    subst hop
    cases neg with
    | false => simp [execOp, ho, g1, g3, run_eqGuard_agg w _ _ _ _ _ _ hg, run_eql_struct, h4]
    | true => simp [execOp, ho, g1, g3, run_eqGuard_agg w _ _ _ _ _ _ hg, run_neq_struct, h4]
  · cases hr
theorem ok_eqT {op : BinOp} {neg : Bool} {t t' : TypeId} {x y : Operand} {x' y' : X} (hop : op = if neg then .neq else .eql) (ho : o.op = .binOp op t x y t') (hx : trX x = some x') (hy : trX y = some y') (hr : evOp C made (.eqT x' y' neg) e H K = some r) : LocalOK P o e H K r cr := by
  simp only [evOp] at hr
  split at hr
  · rename_i a1 a2 e1 e2
    refine pure_ok _ hr fun ρ hp w a _ _ hE => ⟨_, .of (.bool _), ?_⟩
    have q1 := vx hE hx (by simp [ho, Op.operands])
    have q2 := vx hE hy (by simp [ho, Op.operands])
    rw [e1] at q1; rw [e2] at q2
    subst hop
    cases neg <;> simp [execOp, ho, q1.str, q2.str, eqGuard, binOp_string_eql, binOp_string_neq, ← beq_toListBytes]
  · cases hr
theorem ok_idt {u : TypeId} {x i : Operand} {x' i' : X} (hu : P.underlying u = some .string) (ho : o.op = .index u x i) (hx : trX x = some x') (hi : trX i = some i') (hr : evOp C made (.idt x' i') e H K = some r) : LocalOK P o e H K r cr := by
  simp only [evOp, hidt] at hr
  split at hr
  · rename_i s k n e1 e2
    split at hr
    · rename_i b hb
      refine pure_ok _ hr fun ρ hp w a _ _ hE => ⟨_, .of (.int _ _), ?_⟩
      have q1 := vx hE hx (by simp [ho, Op.operands])
      have q2 := vx hE hi (by simp [ho, Op.operands])
      rw [e1] at q1; rw [e2] at q2
      simp [execOp, ho, q1.str, q2.int, Instr.index, asIntOf, run_underlying hu, hb]
    · cases hr
  · cases hr
/-- The cells that a slice shows, in the world. -/
theorem hcells_rel {ρ : Ren} {hp : Nat → Option Blk} {w : World} (hR : Rel ρ hp w) (hG : Agree ρ hp H) {p : Option Addr} {l c n : Nat} {v' : Value} {xs : List Value} (hv : V0 ρ (.slice p l c) v') (hz : l = 0 → n = 0) (h : hcells H p n = some xs) :
    ∃ (p' : Option Addr) (c' : Nat) (ys : List Value), v' = .slice p' l c' ∧ LRel ρ xs ys ∧ xs.length = n ∧ ∀ (w2 : World) (size m : Nat), w2.heap = w.heap → m * size = n → (Builtin.firstCells size m v').run P w2 = .ok ⟨ys⟩ w2 := by
  unfold hcells at h
  split at h
  · rename_i hn
    cases h
    cases p with
    | none => exact ⟨none, c, [], hv.nils, .nil, hn.symm, fun w2 size m _ _ => by simp [hv.nils, Builtin.firstCells]⟩
    | some p =>
      obtain ⟨_, c', k2, _⟩ := hv.slx
      refine ⟨_, c', [], k2, .nil, hn.symm, fun w2 size m _ hm => ?_⟩
      simp [k2, Builtin.firstCells, hm, hn, loadCells, loadCellsFrom]
  · rename_i hn
    split at h
    · rename_i b o' s
      split at h
      · rename_i B hB
        split at h
        · rename_i hle
          cases h
          obtain ⟨_, b', d, c', k1, k2, _⟩ := hv.slc (fun h0 => hn (hz h0.1))
          have hlen : ((B.cells.drop o').take n).length = n := by simp; omega
          have hcs : ∀ j, j < n → ∃ y, w.cell? ⟨b', d + o' + j, none⟩ = some y ∧ VRel ρ (B.cells.getD (o' + j) undef) y := fun j hj => by
            have hc : B.cells[o' + j]? = some (B.cells.getD (o' + j) undef) := by
              rw [List.getD_eq_getElem?_getD, List.getElem?_eq_getElem (by omega)]; rfl
            have := hR.cell ((hG b (hblk_lt hB) k1.ne).trans hB) hc k1
            rwa [show d + (o' + j) = d + o' + j from by omega] at this
          let us : List Value := (List.range n).map fun j => (w.cell? ⟨b', d + o' + j, none⟩).getD undef
          refine ⟨_, c', us, k2, ⟨by simp [us]; omega, fun j y z hy hz => ?_⟩, hlen, fun w2 size m he hm => ?_⟩
          · have hj : j < n := by have := (List.getElem?_eq_some_iff.1 hy).1; omega
            obtain ⟨v', a1, a2⟩ := hcs j hj
            simp [us, hj, a1] at hz
            subst hz
            rw [List.getElem?_take, if_pos hj, List.getElem?_drop] at hy
            have : B.cells.getD (o' + j) undef = y := by simp [List.getD_eq_getElem?_getD, hy]
            rwa [this] at a2
          · have hus : ∀ (j : Nat) v, us[j]? = some v → w2.cell? ((⟨b', d + o', none⟩ : Addr).add j) = some v := fun j v hv => by
              have hj : j < n := by have := (List.getElem?_eq_some_iff.1 hv).1; simpa [us] using this
              obtain ⟨v', a1, _⟩ := hcs j hj
              rw [add_eq]
              simp [us, hj, a1] at hv
              have : w2.cell? ⟨b', d + o' + j, none⟩ = w.cell? ⟨b', d + o' + j, none⟩ := by simp [World.cell?, he]
              rw [this, a1, hv]
            have hl2 : us.length = n := by simp [us]
            have := run_loadCells_list (P := P) (w := w2) ⟨b', d + o', none⟩ us hus
            rw [hl2] at this
            simp only [k2, Builtin.firstCells, hm, this]
        · cases h
      · cases h
    · cases h
theorem hcells_one {ρ : Ren} {hp : Nat → Option Blk} {w : World} (hR : Rel ρ hp w) (hG : Agree ρ hp H) {p : Option Addr} {l c n : Nat} {v' : Value} {xs : List Value} (hv : V0 ρ (.slice p l c) v') (hz : l = 0 → n = 0) (h : hcells H p n = some xs) : xs.all oneC = true := by
  unfold hcells at h
  split at h
  · cases h; rfl
  · rename_i hn
    split at h
    · rename_i b o' s
      split at h
      · rename_i B hB
        split at h
        · cases h
          obtain ⟨_, b', d, c', k1, k2, _⟩ := hv.slc (fun h0 => hn (hz h0.1))
          obtain ⟨_, _, _, _, _, _, _, _, _, _, hone⟩ := hR.blk b B ((hG b (hblk_lt hB) k1.ne).trans hB)
          refine List.all_eq_true.2 fun v hv => List.all_eq_true.1 hone v (List.mem_of_mem_drop (List.mem_of_mem_take hv))
        · cases h
      · cases h
    · cases h
theorem nums_map : ∀ {cs : List Value} {xs : List Int}, nums cs = some xs → cs = xs.map (Value.int .u8) := by
  intro cs
  induction cs with
  | nil => intro xs h; simp [nums] at h; subst h; rfl
  | cons c cs ih =>
    intro xs h
    unfold nums at h
    split at h
    · rename_i h1; cases h1
    · rename_i n vs h1
      cases h1
      split at h
      · rename_i ys hy; cases h; rw [ih hy]; rfl
      · cases h
    · cases h
theorem ok_b2s {u v el : TypeId} {x : Operand} {x' : X} (hu : P.underlying u = some (.slice el)) (he : P.underlying el = some (.int .u8)) (hv : P.underlying v = some .string) (ho : o.op = .convert u v x) (hx : trX x = some x') (hr : evOp C made (.b2s x') e H K = some r) : LocalOK P o e H K r cr := by
  simp only [evOp, hb2s] at hr
  split at hr
  · rename_i p l c e1
    split at hr
    · rename_i cs hcs
      split at hr
      · rename_i xs hxs
        refine pure_ok _ hr fun ρ hp w a hR hG hE => ⟨_, .of (.str _), ?_⟩
        have q1 := vx hE hx (by simp [ho, Op.operands])
        rw [e1] at q1
        obtain ⟨p', c', ys, f1, f2, f3, f4⟩ := hcells_rel (P := P) hR hG q1 (fun h => h) hcs
        have k := f4 w 1 l rfl (by simp)
        have hys : ys = xs.map (Value.int .u8) := by
          rw [nums_map hxs] at f2
          refine List.ext_getElem? fun i => ?_
          cases hi : (xs.map (Value.int .u8))[i]? with
          | none =>
            have : ys.length ≤ i := by rw [← f2.1]; exact List.getElem?_eq_none_iff.1 hi
            exact List.getElem?_eq_none this
          | some y =>
            obtain ⟨z, g1, g2⟩ := f2.get hi
            rw [List.getElem?_map] at hi
            obtain ⟨n, _, rfl⟩ := Option.map_eq_some_iff.1 hi
            rw [g1]; cases g2; rfl
        rw [f1] at k
        rw [show (execOp a.eval o).run P w = ((convert u v (a.eval x)).run P w).andThen fun v w => .ok (.value v) w from by simp [execOp, ho], f1]
        rw [run_convert_bytes_string w u v el p' l c' hu he hv]
        cases p' with
        | none =>
          have h0 : ys = [] := by
            simp [Builtin.firstCells] at k
            simpa using k.symm
          have : xs = [] := by rw [h0] at hys; simpa using hys.symm
          subst this
          simp [Conv.bytesToString, strOfNums]
          rfl
        | some a' =>
          have hl : (loadCells a' l).run P w = .ok (xs.map (Value.int .u8)).toArray w := by
            simp [Builtin.firstCells] at k
            rw [k, hys]
          rw [run_bytesToString w a' l c' xs hl, foldl_push_bytes]
          simp [strOfNums, ByteArray.empty, ByteArray.emptyWithCapacity]
          rfl
      · cases hr
    · cases hr
  · cases hr
theorem cap_ge (need old : Nat) (el : TypeId) (t : Nat) : need ≤ (Question.appendCap need old el).cut t := by
  simp [Question.cut]
/-- What a growing append does, in the world. -/
theorem append_grows {ρ : Ren} {hp : Nat → Option Blk} {w : World} (hR : Rel ρ hp w) (hG : Agree ρ hp H) {u u' el el' t : TypeId} {z : List Value} {b : Nat} {p q : Option Addr} {l c n c2 : Nat} {s' x' : Value} {old xs : List Value} (hu : P.underlying u = some (.slice el)) (hu' : P.underlying u' = some (.slice el')) (hz : zer P el = some z) (hs : sz P el = some z.length) (hb : byts P el = some b) (hb0 : b ≠ 0)
    (hvs : V0 ρ (.slice p l c) s') (hvx : V0 ρ (.slice q n c2) x') (hold : hcells H p (l * z.length) = some old) (hxs : hcells H q (n * z.length) = some xs) (hbig : (l + n) * b ≤ 35184372088832)
    (hfull : ∀ p' c', s' = .slice p' l c' → ¬ l + n ≤ c') :
    ∃ (arr : Array Value) (cap : Nat) (w1 : World), (∀ (i : Nat) x, (old ++ xs)[i]? = some x → ∃ y, arr[i]? = some y ∧ VRel ρ x y) ∧ cap * z.length ≤ arr.size ∧ l + n ≤ cap ∧
      (Builtin.append_ #[u, u'] t #[s', x']).run P w = .ok (.slice (some ⟨w.heap.size, 0, none⟩) (l + n) cap) w1 ∧ w1.heap = w.heap.push (.cells arr el) ∧ w1.os = w.os ∧ w1.tape = w.tape ∧ w1.output = w.output := by
  obtain ⟨p', c', ys, e1, e2, e3, e4⟩ := hcells_rel (P := P) hR hG hvs (fun h => by rw [h, Nat.zero_mul]) hold
  obtain ⟨q', c2', zs, f1, f2, f3, f4⟩ := hcells_rel (P := P) hR hG hvx (fun h => by rw [h, Nat.zero_mul]) hxs
  obtain ⟨it, zv, h1, h2, h3⟩ := zer_info hz
  have hit : it.size = z.length ∧ it.bytes = b := by
    unfold sz at hs; unfold byts at hb; rw [h1] at hs hb; simp at hs hb; exact ⟨hs, hb⟩
  have hnf := hfull p' c' e1
  let cap := (Question.appendCap (l + n) c' el).cut (w.tape w.drawn (.appendCap (l + n) c' el))
  have hcap : l + n ≤ cap := cap_ge _ _ _ _
  let w0 : World := w.drew
  refine ⟨⟨ys⟩ ++ ⟨zs⟩ ++ Builtin.zeroCells zv.cells (cap - (l + n)), cap, { w0 with heap := w0.heap.push (.cells (⟨ys⟩ ++ ⟨zs⟩ ++ Builtin.zeroCells zv.cells (cap - (l + n))) el) }, fun i x hi => ?_, ?_, hcap, ?_, rfl, rfl, rfl, rfl⟩
  · obtain ⟨y, g1, g2⟩ := (e2.append f2).get hi
    refine ⟨y, ?_, g2⟩
    have hlt : i < (ys ++ zs).length := (List.getElem?_eq_some_iff.1 g1).1
    have : ((⟨ys⟩ ++ ⟨zs⟩ ++ Builtin.zeroCells zv.cells (cap - (l + n)) : Array Value)).toList[i]? = some y := by
      simp only [Array.toList_append]
      rw [List.getElem?_append_left hlt]; exact g1
    rwa [Array.getElem?_toList] at this
  · have i1 : ys.length = l * z.length := by rw [← e2.1, e3]
    have i2 : zs.length = n * z.length := by rw [← f2.1, f3]
    have i3 : zv.cells.size = z.length := by rw [← h3]; simp
    have i4 : cap * z.length = (l + n) * z.length + (cap - (l + n)) * z.length := by rw [← Nat.add_mul]; congr 1; omega
    simp [Builtin.zeroCells, i1, i2, i3]
    rw [i4, Nat.add_mul]
    exact Nat.le_refl _
  · have hne : (¬ l + n ≤ c') := hnf
    have hneed : l + n < 2 ^ 46 := by
      have : l + n ≤ (l + n) * b := Nat.le_mul_of_pos_right _ (Nat.pos_of_ne_zero hb0)
      omega
    have hnx : ¬ (2 ^ 48 < Builtin.nextslicecap (l + n) c' * b) := by
      have h1 := nextslicecap_le (need := l + n) (old := c') (by omega)
      have h2 : Builtin.nextslicecap (l + n) c' * b ≤ 2 * (l + n) * b := Nat.mul_le_mul_right _ h1
      rw [Nat.mul_assoc] at h2
      omega
    have hmax : ¬ ((IntKind.i64.max : Int) < ((l + n : Nat) : Int)) := by simp [IntKind.max, IntKind.signed, IntKind.bits]; omega
    have k1 := e4 w0 z.length l rfl rfl
    have k2 := f4 w0 z.length n rfl rfl
    subst e1 f1
    unfold Builtin.append_
    simp [run_underlying hu, run_underlying hu', sz_info hs, Builtin.lenOf, hne, typeInfo, h1, hit.2, hnx, hb0]
    have hfo : (Question.appendCap (l + n) c' el).forced = false := rfl
    have k1' : (Builtin.firstCells z.length l (Value.slice p' l c')).run P w.drew = .ok ⟨ys⟩ w.drew := k1
    have k2' : (Builtin.firstCells z.length n (Value.slice q' n c2')).run P w.drew = .ok ⟨zs⟩ w.drew := k2
    simp [hfo, k1', k2', zeroValue, typeInfo, h1, h2, newRow, newObj, Sem.run]
    refine ⟨rfl, ?_⟩
    show w.drew.alloc _ = w.drew.alloc _
    congr 2
    apply Array.ext'
    simp
    rfl
theorem ok_apn {c : Call} {u u' el el' : TypeId} {s x : Operand} {s' x' : X} {z : List Value} {b : Nat} (hc : c.callee = .builtin .append) (ht : c.argTypes.toList = [u, u']) (ha : c.args.toList = [s, x]) (hu : P.underlying u = some (.slice el)) (hu' : P.underlying u' = some (.slice el')) (hz : zer P el = some z) (hs : sz P el = some z.length) (hb : byts P el = some b) (hb0 : b ≠ 0)
    (ho : o.op = .call c) (hx1 : trX s = some s') (hx2 : trX x = some x') (hr : evOp C made (.apn z b s' x') e H K = some r) : LocalOK P o e H K r true := by
  have ht' : c.argTypes = #[u, u'] := Array.ext' ht
  have ha' : c.args = #[s, x] := Array.ext' ha
  have hm1 : s ∈ o.op.operands := by simp [ho, Op.operands, Call.operands, hc, ha']
  have hm2 : x ∈ o.op.operands := by simp [ho, Op.operands, Call.operands, hc, ha']
  obtain ⟨cs, hrun⟩ := run_builtin P hc ho
  simp only [evOp, hapnS] at hr
  split at hr
  · rename_i p l cz q n c2 e1 e2
    split at hr
    · rename_i xs hxs
      unfold hapn at hr
      split at hr
      · cases hr
      · rename_i hcu
        split at hr
        · rename_i hn
          subst hn
          split at hr
          · rename_i hlc
            refine pure_ok _ hr fun ρ hp w a hR hG hE => ?_
            have q1 := vx hE hx1 hm1
            have q2 := vx hE hx2 hm2
            rw [e1] at q1; rw [e2] at q2
            obtain ⟨q', c2', zs, f1, f2, f3, f4⟩ := hcells_rel (P := P) hR hG q2 (fun h => by simp) hxs
            have key : ∃ p', a.eval s = .slice p' l cz := by
              cases p with
              | none => exact ⟨none, q1.nils⟩
              | some p =>
                obtain ⟨_, c', k2, k3, k4⟩ := q1.slx
                rcases k3 with k3 | k3
                · subst k3; exact ⟨_, k2⟩
                · exact (hcu k3).elim
            obtain ⟨p', k1⟩ := key
            refine ⟨_, q1, ?_⟩
            rw [hrun, ht', ha']
            have k5 := f4 w z.length 0 rfl (by simp)
            have h0 : zs = [] := by
              have := f2.1; rw [f3] at this; simp at this; exact List.eq_nil_of_length_eq_zero this.symm
            subst h0
            have hl0 : (builtin .append #[u, u'] o.type cs #[a.eval s, a.eval x]).run P w = .ok (.value (.slice p' l cz)) w := by
              rw [k1, f1]
              rw [f1] at k5
              unfold builtin Builtin.append_
              cases p' with
              | none => simp [run_underlying hu, run_underlying hu', sz_info hs, Builtin.lenOf, hlc, k5]
              | some p' => simp [run_underlying hu, run_underlying hu', sz_info hs, Builtin.lenOf, hlc, k5, storeCells]
            rw [k1] at hl0 ⊢
            simp only [List.map_toArray, List.map_cons, List.map_nil, k1]
            exact hl0
          · cases hr
        · rename_i hn
          split at hr
          · cases hr
          · rename_i hnc
            split at hr
            · rename_i hbig
              split at hr
              · rename_i old hold
                refine new_ok _ (old ++ xs) z.length (fun ρ hp w hR hG hE => by obtain ⟨a, hE⟩ := hE; have q1 := vx hE hx1 hm1; have q2 := vx hE hx2 hm2; rw [e1] at q1; rw [e2] at q2; rw [List.all_append, hcells_one hR hG q1 (fun h => by rw [h, Nat.zero_mul]) hold, hcells_one hR hG q2 (fun h => by rw [h, Nat.zero_mul]) hxs]; rfl) hr fun ρ hp w a hR hG hE => ?_
                have q1 := vx hE hx1 hm1
                have q2 := vx hE hx2 hm2
                rw [e1] at q1; rw [e2] at q2
                obtain ⟨arr, cap, w1, g1, g0, g2, g3, g4, g5, g6, g7⟩ := append_grows (P := P) (t := o.type) hR hG hu hu' hz hs hb hb0 q1 q2 hold hxs hbig (by
                  intro p' c' he
                  cases p with
                  | none => have := q1.nils; rw [this] at he; cases he; exact hnc
                  | some p =>
                    obtain ⟨_, c'', k2, k3, k4⟩ := q1.slx
                    rw [k2] at he; cases he
                    rcases k3 with k3 | k3
                    · subst k3; exact hnc
                    · exact (hcu k3).elim)
                refine ⟨arr, el, _, w1, cap, g1, g0, fun ρ' h => .of (.slc ⟨_, h⟩ (.inr rfl) g2 (fun _ _ => by simp [cp, h])), ?_, g4, g5, g6, g7⟩
                rw [hrun, ht', ha']
                simp [builtin, g3]
              · cases hr
            · cases hr
    · cases hr
  · cases hr
end pure
end Go.Proofs.Ytjajknghcbpblaa.FW
