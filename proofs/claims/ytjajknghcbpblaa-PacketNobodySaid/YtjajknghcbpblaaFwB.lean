/- Every operation in resolved form stands for the model's. -/
import Derived.Test.YtjajknghcbpblaaFwA
set_option linter.unusedVariables false
set_option linter.unusedSimpArgs false
namespace Go.Proofs.Ytjajknghcbpblaa.FW
variable {P : Program} {R : Type}
/-- Operations that make no memory and read none but by one address. -/
def isBar : IOp → Bool
  | .st .. | .app .. | .cpy .. | .clr .. | .cvs .. | .call .. | .calv .. => true
  | _ => false
def isCal : IOp → Bool
  | .calp .. | .calf .. | .calq .. => true
  | _ => false
def hidOf : IOp → List Nat
  | .calf _ _ h _ => h
  | _ => []
theorem hideH_length (made : List (Nat × Nat × Nat)) : ∀ (hs : List Nat) (H : Heap), (hideH H made hs).length = H.length := by
  have h1 : ∀ (i : Nat) (made : List (Nat × Nat × Nat)) (H : Heap), (made.foldl (fun H m => bif Nat.beq m.1 i then H.mapIdx (fun j x => bif Nat.ble m.2.1 j && Nat.blt j m.2.2 then none else x) else H) H).length = H.length := by
    intro i made
    induction made with
    | nil => intro H; rfl
    | cons m made ih =>
      intro H
      rw [List.foldl_cons, ih]
      cases Nat.beq m.1 i <;> simp
  intro hs
  induction hs with
  | nil => intro H; rfl
  | cons i hs ih => intro H; rw [hideH, ih, h1]
theorem hideH_sub (made : List (Nat × Nat × Nat)) : ∀ (hs : List Nat) (H : Heap) b B, hblk (hideH H made hs) b = some B → hblk H b = some B := by
  have h0 : ∀ (p : Nat → Bool) (H : Heap) b B, hblk (H.mapIdx (fun j x => bif p j then none else x)) b = some B → hblk H b = some B := by
    intro p H b B h
    rw [hblk_get] at h ⊢
    rw [List.getElem?_mapIdx] at h
    cases hb : H[b]? with
    | none => rw [hb] at h; simp at h
    | some x =>
      rw [hb] at h
      simp only [Option.map_some] at h
      cases hp : p b with
      | true => rw [hp] at h; simp at h
      | false => rw [hp] at h; exact h
  have h1 : ∀ (i : Nat) (made : List (Nat × Nat × Nat)) (H : Heap) b B, hblk (made.foldl (fun H m => bif Nat.beq m.1 i then H.mapIdx (fun j x => bif Nat.ble m.2.1 j && Nat.blt j m.2.2 then none else x) else H) H) b = some B → hblk H b = some B := by
    intro i made
    induction made with
    | nil => intro H b B h; exact h
    | cons m made ih =>
      intro H b B h
      rw [List.foldl_cons] at h
      have := ih _ b B h
      cases hm : Nat.beq m.1 i with
      | false => rw [hm] at this; exact this
      | true => rw [hm, cond_true] at this; exact h0 (fun j => Nat.ble m.2.1 j && Nat.blt j m.2.2) _ b B this
  intro hs
  induction hs with
  | nil => intro H b B h; exact h
  | cons i hs ih => intro H b B h; exact h1 i made H b B (ih _ b B h)
section
variable {o : Oper} {e : Env} {H : Heap} {K : Value → Heap → Option R} {r : R} {C : Tab R} {made : List (Nat × Nat × Nat)} {an : Ann} {bar : Bool} {hide : List Nat} {io : IOp}
/-- What is owed of an operation, by its class. -/
def OpOK (P : Program) (o : Oper) (io : IOp) (e : Env) (H : Heap) (made : List (Nat × Nat × Nat)) (K : Value → Heap → Option R) (r : R) : Prop :=
  if isBar io then SeqOK P o e H K r else if isCal io then CallOK P o e H (hideH H made (hidOf io)) K r (isCreator io) else LocalOK P o e H K r (isCreator io)
theorem loc (hb : isBar io = false) (hc : isCal io = false) (h : LocalOK P o e H K r (isCreator io)) : OpOK P o io e H made K r := by
  unfold OpOK; rw [hb, hc]; exact h
theorem trBin_ok {op : BinOp} {t t' : TypeId} {x y : Operand} (ho : o.op = .binOp op t x y t') (h : trBin P op t x y = some io) (hr : evOp C made io e H K = some r) : OpOK P o io e H made K r := by
  unfold trBin at h
  split at h
  · rename_i a b ha hb
    split at h
    · rename_i k hu
      cases h1 : isArith op || isShift op with
      | true => rw [h1] at h; cases h; exact loc rfl rfl (ok_bin ho ha hb hr)
      | false =>
        rw [h1, cond_false] at h
        cases h2 : isCmp op with
        | true => rw [h2] at h; cases h; exact loc rfl rfl (ok_cmp hu ho ha hb hr)
        | false => rw [h2] at h; cases h
    · rename_i hu
      split at h
      · cases h; exact loc rfl rfl (ok_eqb (neg := false) rfl hu ho ha hb hr)
      · cases h; exact loc rfl rfl (ok_eqb (neg := true) rfl hu ho ha hb hr)
      · cases h
    · rename_i hu
      split at h
      · cases h; exact loc rfl rfl (ok_eqT (neg := false) rfl ho ha hb hr)
      · cases h; exact loc rfl rfl (ok_eqT (neg := true) rfl ho ha hb hr)
      · cases h
    · rename_i d hu
      split at h
      · cases h; exact loc rfl rfl (ok_eqnil (neg := false) rfl (.inl ⟨⟨d, hu⟩, rfl⟩) ho ha hr)
      · cases h; exact loc rfl rfl (ok_eqnil (neg := true) rfl (.inl ⟨⟨d, hu⟩, rfl⟩) ho ha hr)
      · cases h
    · rename_i d hu
      split at h
      · cases h; exact loc rfl rfl (ok_eqnil (neg := false) rfl (.inr (.inl ⟨⟨d, hu⟩, _, _, rfl⟩)) ho ha hr)
      · cases h; exact loc rfl rfl (ok_eqnil (neg := true) rfl (.inr (.inl ⟨⟨d, hu⟩, _, _, rfl⟩)) ho ha hr)
      · cases h
    · rename_i d1 d2 d3 hu
      split at h
      · cases h; exact loc rfl rfl (ok_eqnil (neg := false) rfl (.inr (.inr ⟨⟨_, _, _, hu⟩, rfl⟩)) ho ha hr)
      · cases h; exact loc rfl rfl (ok_eqnil (neg := true) rfl (.inr (.inr ⟨⟨_, _, _, hu⟩, rfl⟩)) ho ha hr)
      · cases h
    · rename_i fs hu
      cases hg : P.stoodInHeld t || P.eqGuardType P.depth t with
      | true => rw [hg] at h; cases h
      | false =>
        rw [hg, cond_false] at h
        rw [Bool.or_eq_false_iff] at hg
        split at h
        · rename_i os hos
          split at h
          · cases h; exact loc rfl rfl (ok_eqs (neg := false) rfl hu hg.1 hg.2 hos ho ha hb hr)
          · cases h; exact loc rfl rfl (ok_eqs (neg := true) rfl hu hg.1 hg.2 hos ho ha hb hr)
          · cases h
        · cases h
    · cases h
  · cases h
theorem trCall_ok {c : Call} (hC : CSound P C) (ho : o.op = .call c) (h : trCall P an bar hide c o.type = some io) (hr : evOp C made io e H K = some r) : OpOK P o io e H made K r := by
  unfold trCall at h
  split at h
  · rename_i b hcal
    split at h
    · rename_i u x h1 h2
      split at h
      · rename_i x' d hx hu; cases h; exact loc rfl rfl (ok_len hcal h1 h2 hu ho hx hr)
      · rename_i x' hx hu; cases h; exact loc rfl rfl (ok_lenT hcal h1 h2 hu ho hx hr)
      · rename_i x' n d hx hu; cases h; exact loc rfl rfl (ok_cst hcal h1 h2 hu ho hr)
      · cases h
    · rename_i x y h2
      split at h
      · rename_i x' y' hx hy; cases h; exact loc rfl rfl (ok_mx hcal h2 ho hx hy hr)
      · cases h
    · rename_i x y h2
      split at h
      · rename_i x' y' hx hy; cases h; exact loc rfl rfl (ok_mn hcal h2 ho hx hy hr)
      · cases h
    · rename_i u u' x y h1 h2
      split at h
      · rename_i s' y' el el' hx hy hu hu'
        split at h
        · rename_i z n m hz hn hm
          cases hc : Nat.beq m z.length && !(Nat.beq m 0) && !(Nat.beq n 0) && z.all ptrFreeC with
          | false => rw [hc] at h; cases h
          | true =>
            rw [hc, cond_true] at h
            simp only [Bool.and_eq_true, Bool.not_eq_true'] at hc
            obtain ⟨⟨⟨g1, g2⟩, g3⟩, g4⟩ := hc
            have e1 : m = z.length := Nat.eq_of_beq_eq_true g1
            subst e1
            have e3 : n ≠ 0 := Nat.ne_of_beq_eq_false g3
            split at h
            · cases h; exact loc rfl rfl (ok_apn hcal h1 h2 hu hu' hz hm hn e3 ho hx hy hr)
            · cases hbar : bar with
              | true => rw [hbar] at h; cases h; exact ok_app hcal h1 h2 hu hu' hz hm hn e3 ho hx hy hr
              | false => rw [hbar] at h; cases h; exact loc rfl rfl (ok_apn hcal h1 h2 hu hu' hz hm hn e3 ho hx hy hr)
        · cases h
      · cases h
    · rename_i u u' x y h1 h2
      split at h
      · rename_i d' s' el hx hy hu
        split at h
        · rename_i m hm
          cases hc : Nat.beq m 0 with
          | true => rw [hc] at h; cases h
          | false => rw [hc] at h; cases h; exact ok_cpy hcal h1 h2 hu hm ho hx hy hr
        · cases h
      · cases h
    · rename_i u x h1 h2
      split at h
      · rename_i s' el hx hu
        split at h
        · rename_i z m hz hm
          cases hc : Nat.beq m z.length && !(Nat.beq m 0) && z.all ptrFreeC with
          | false => rw [hc] at h; cases h
          | true =>
            rw [hc, cond_true] at h
            simp only [Bool.and_eq_true, Bool.not_eq_true'] at hc
            cases h
            exact ok_clr hcal h1 h2 hu hz hm (Nat.eq_of_beq_eq_true hc.1.1) (Nat.ne_of_beq_eq_false hc.1.2) hc.2 ho hx hr
        · cases h
      · cases h
    · cases h
  · rename_i f hcal
    split at h
    · rename_i xs hxs
      split at h
      · rename_i fn hf
        cases hc : fn.body.isSome && !(fn.name == "runtime.NumGoroutine") with
        | false => rw [hc] at h; cases h
        | true =>
          rw [hc, cond_true] at h
          simp only [Bool.and_eq_true, Bool.not_eq_true'] at hc
          cases h1 : an.drop.elem f || (!bar && an.pure.elem f) with
          | true => rw [h1] at h; cases h; exact ok_calp hC hcal hf hc.1 hc.2 hxs ho hr
          | false =>
            rw [h1, cond_false] at h
            cases h2 : !bar && an.fresh.elem f with
            | true => rw [h2] at h; cases h; exact ok_calf hC hcal hf hc.1 hc.2 (hideH_length _ _ _) hxs ho hr
            | false => rw [h2] at h; cases h; exact ok_call hC hcal hf hc.1 hc.2 hxs ho hr
      · cases h
    · cases h
  · rename_i g hcal
    split at h
    · rename_i xs hxs
      cases hb : bar with
      | true => rw [hb] at h; cases h; exact ok_calv hC hcal rfl hxs ho hr
      | false => rw [hb] at h; cases h; exact ok_calq hC hcal rfl hxs ho hr
    · cases h
  · cases h
theorem trOp_ok (hC : CSound P C) (h : trOp P an bar hide o.op o.type = some io) (hr : evOp C made io e H K = some r) : OpOK P o io e H made K r := by
  unfold trOp at h
  split at h
  · rename_i x ho; split at h
    · cases h; exact loc rfl rfl (ok_mov (.inl ho) ‹_› hr)
    · cases h
  · rename_i x ho; split at h
    · cases h; exact loc rfl rfl (ok_mov (.inr ho) ‹_› hr)
    · cases h
  · rename_i c a b ho; split at h
    · cases h; exact loc rfl rfl (ok_pick ho ‹_› ‹_› ‹_› hr)
    · cases h
  · rename_i op u x y t' ho; exact trBin_ok ho h hr
  · rename_i u x ho; split at h
    · cases h; exact loc rfl rfl (ok_lnot ho ‹_› hr)
    · cases h
  · rename_i u x ho; split at h
    · cases h; exact loc rfl rfl (ok_neg ho ‹_› hr)
    · cases h
  · rename_i u x ho; split at h
    · rename_i a n hx hs
      cases hA : isAg P u with
      | true =>
        rw [hA, cond_true] at h
        cases hk : Nat.beq (kinds P 6 u).length n && !(Nat.beq n 0) with
        | false => rw [hk] at h; cases h
        | true =>
          rw [hk] at h; cases h
          simp only [Bool.and_eq_true, Bool.not_eq_true'] at hk
          have hd : ∃ d, P.underlying u = some d := by
            unfold isAg at hA
            cases hq : P.underlying u with
            | none => rw [hq] at hA; cases hA
            | some d => exact ⟨d, rfl⟩
          obtain ⟨d, hd⟩ := hd
          exact loc rfl rfl (ok_ld hd hs (fun _ => ⟨Nat.eq_of_beq_eq_true hk.1, Nat.ne_of_beq_eq_false hk.2⟩) ho hx hr)
      | false =>
        rw [hA, cond_false] at h
        split at h
        · rename_i d hd; cases h; exact loc rfl rfl (ok_ld hd hs (fun hh => by rw [hA] at hh; cases hh) ho hx hr)
        · cases h
    · cases h
  · rename_i u x v ho; split at h
    · cases h; exact ok_st ‹_› ho ‹_› ‹_› hr
    · cases h
  · rename_i x ho; split at h
    · cases h; exact loc rfl rfl (ok_nilc ho ‹_› hr)
    · cases h
  · rename_i u x f ho; split at h
    · rename_i x' fs hx hu
      split at h
      · rename_i fd hf
        split at h
        · rename_i n hn
          cases hz : Nat.beq n 0 with
          | true => rw [hz] at h; cases h
          | false => rw [hz] at h; cases h; exact loc rfl rfl (ok_fad hu hf hn (Nat.ne_of_beq_eq_false hz) ho hx hr)
        · cases h
      · cases h
    · cases h
  · rename_i u x f ho; split at h
    · rename_i x' fs hx hu
      split at h
      · rename_i fd hf
        split at h
        · rename_i n d hn hd; cases h; exact loc rfl rfl (ok_fld hu hf hn hd ho hx hr)
        · cases h
      · cases h
    · cases h
  · rename_i u x i ho; split at h
    · rename_i x' i' el hx hi hu
      split at h
      · rename_i n hn
        cases hz : Nat.beq n 0 with
        | true => rw [hz] at h; cases h
        | false => rw [hz] at h; cases h; exact loc rfl rfl (ok_ids hu hn ho hx hi hr)
      · cases h
    · rename_i x' i' m el hx hi hu
      split at h
      · rename_i n hn
        cases hz : Nat.beq n 0 with
        | true => rw [hz] at h; cases h
        | false => rw [hz] at h; cases h; exact loc rfl rfl (ok_ida hu hn ho hx hi hr)
      · cases h
    · cases h
  · rename_i u x i ho; split at h
    · rename_i x' i' m el hx hi hu
      split at h
      · rename_i n d hn hd; cases h; exact loc rfl rfl (ok_idv hu hd hn ho hx hi hr)
      · cases h
    · rename_i x' i' hx hi hu
      cases h; exact loc rfl rfl (ok_idt hu ho hx hi hr)
    · cases h
  · rename_i x i ho; split at h
    · cases h; exact loc rfl rfl (ok_ext ho ‹_› hr)
    · cases h
  · rename_i el ho; split at h
    · rename_i z hz
      cases hf : z.all ptrFreeC with
      | false => rw [hf] at h; cases h
      | true => rw [hf] at h; cases h; exact loc rfl rfl (ok_alc hz hf ho hr)
    · cases h
  · rename_i el x ho; split at h
    · cases h; exact loc rfl rfl (ok_box ho ‹_› hr)
    · cases h
  · rename_i u parts ho; split at h
    · rename_i fs z hu hz
      cases hf : z.all ptrFreeC with
      | false => rw [hf] at h; cases h
      | true =>
        rw [hf, cond_true] at h
        split at h
        · rename_i pl hpl
          split at h
          · rename_i ps hps; cases h; exact loc rfl rfl (ok_bld hu hz hf hpl hps ho hr)
          · cases h
        · cases h
    · rename_i m el z hu hz
      cases hf : z.all ptrFreeC with
      | false => rw [hf] at h; cases h
      | true =>
        rw [hf, cond_true] at h
        split at h
        · rename_i n hn
          split at h
          · rename_i ps hps; cases h; exact loc rfl rfl (ok_bldA hu hz hf hn hps ho hr)
          · cases h
        · cases h
    · cases h
  · rename_i u len parts ho; split at h
    · rename_i el hu
      split at h
      · rename_i z n hz hn
        cases hc : Nat.beq n z.length && !(Nat.beq n 0) && z.all ptrFreeC && Nat.ble (len * n) 16777216 with
        | false => rw [hc] at h; cases h
        | true =>
          rw [hc, cond_true] at h
          simp only [Bool.and_eq_true, Bool.not_eq_true'] at hc
          obtain ⟨⟨⟨g1, g2⟩, g3⟩, g4⟩ := hc
          split at h
          · rename_i ps hps; cases h
            exact loc rfl rfl (ok_bls hu hz g3 hn (Nat.eq_of_beq_eq_true g1) (Nat.ne_of_beq_eq_false g2) (Nat.le_of_ble_eq_true g4) hps ho hr)
          · cases h
      · cases h
    · cases h
  · rename_i u l c ho; split at h
    · rename_i l' c' el hl hc hu
      split at h
      · rename_i z n b hz hn hb
        cases hcc : Nat.beq n z.length && !(Nat.beq n 0) && !(Nat.beq b 0) && z.all ptrFreeC with
        | false => rw [hcc] at h; cases h
        | true =>
          rw [hcc] at h; cases h
          simp only [Bool.and_eq_true, Bool.not_eq_true'] at hcc
          obtain ⟨⟨⟨g1, g2⟩, g3⟩, g4⟩ := hcc
          exact loc rfl rfl (ok_mks hu hz hn hb (Nat.eq_of_beq_eq_true g1) (Nat.ne_of_beq_eq_false g2) g4 ho hl hc hr)
      · cases h
    · cases h
  · rename_i u x lo hi mx ho; split at h
    · rename_i x' lo' hi' mx' el hx h1 h2 h3 hu
      split at h
      · rename_i n hn
        cases hz : Nat.beq n 0 || (mx'.isSome && hi'.isNone) with
        | true => rw [hz] at h; cases h
        | false =>
          rw [hz] at h; cases h
          refine loc rfl rfl (ok_slc hu hn (fun hm => ?_) ho hx h1 h2 h3 hr)
          cases hi' <;> simp_all
      · cases h
    · rename_i x' lo' hi' mx' m el hx h1 h2 h3 hu
      split at h
      · rename_i n hn
        cases hz : Nat.beq n 0 || (mx'.isSome && hi'.isNone) with
        | true => rw [hz] at h; cases h
        | false =>
          rw [hz] at h; cases h
          refine loc rfl rfl (ok_sla hu hn (fun hm => ?_) ho hx h1 h2 h3 hr)
          cases hi' <;> simp_all
      · cases h
    · cases h
  · rename_i u v x ho; split at h
    · cases h; exact loc rfl rfl (ok_cnv ‹_› ‹_› ho ‹_› hr)
    · rename_i x' el hx hu hv
      split at h
      · rename_i he; cases h; exact loc rfl rfl (ok_b2s hu he hv ho hx hr)
      · cases h
    · rename_i x' el el' hx hu hv
      split at h
      · rename_i he
        cases huv : u == v with
        | false => rw [huv] at h; cases h
        | true =>
          rw [huv] at h; cases h
          exact ok_cvs hu hv he huv ho hx hr
      · cases h
    · cases h
  · rename_i f first caps ho; split at h
    · rename_i xs h1 h2
      cases h
      have : first = #[] := Array.ext' h1
      subst this
      exact loc rfl rfl (ok_mkf ho h2 hr)
    · cases h
  · rename_i c ho; exact trCall_ok hC ho h hr
  · cases h
theorem OpOK.seq (h : OpOK P o io e H made K r) : SeqOK P o e H K r := by
  unfold OpOK at h
  split at h
  · exact h
  · split at h
    · exact CallOK.seq h (hideH_sub _ _ _)
    · exact LocalOK.seq h
end
end Go.Proofs.Ytjajknghcbpblaa.FW
