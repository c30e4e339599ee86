/- Code in resolved form stands for the model's: control, loops, functions. -/
import Derived.Test.YtjajknghcbpblaaFwD
set_option linter.unusedVariables false
set_option linter.unusedSimpArgs false
namespace Go.Proofs.Ytjajknghcbpblaa.FW
variable {P : Program} {R : Type}
section
variable {C : Tab R} {an : Ann} {nt : Nat}
theorem reg_ok (hC : CSound P C) {id : Nat} {ops : Array Oper} {draw : Bool} {ios : List IOper} {bf : List (List Nat)} (htr : trReg P an nt bf ops draw = some ios) {e : Env} {H : Heap} {K : Env → Heap → Option R} {r : R} (h : evOps C H ios 0 [] e H K = some r) :
    ∃ e' H', TriC P nt (.region id ops draw) e H .normal e' H' ∧ K e' H' = some r := by
  cases draw with
  | true => exact draw_ok hC htr h
  | false =>
    simp only [trReg, cond_false] at htr
    obtain ⟨e', H', ⟨hl, ht⟩, hk⟩ := evOps_ok hC ops _ ops.toList ios 0 (by simp) htr [] e H K r h
    refine ⟨e', H', ⟨hl, fun ρ w a hR hD hE => ?_⟩, hk⟩
    refine wp_region ?_
    have hr : List.range ops.size = List.range' 0 ops.toList.length := by simp [List.range_eq_range']
    rw [hr]
    exact ht ρ w a _ hR hD hE (fun ρ' a' w' q1 q2 q3 => ⟨trivial, ρ', q1, q2, q3⟩)
theorem TriC.seq1 {x y : Code} {e e1 e2 : Env} {H H1 H2 : Heap} {z : Xit} (h1 : TriC P nt x e H .normal e1 H1) (h2 : TriC P nt y e1 H1 z e2 H2) : TriC P nt (.seq x y) e H z e2 H2 := by
  refine ⟨Nat.le_trans h1.1 h2.1, fun ρ w a hR hD hE => wp_seq (wp_mono (h1.2 ρ w a hR hD hE) ?_)⟩
  rintro ex a' w' ⟨hx, ρ', q1, q2, q3⟩
  cases ex <;> first | exact hx.elim | skip
  refine wp_mono (h2.2 ρ' w' a' q2.rel (q3.dom h1.1 hD) q1) ?_
  rintro ex a'' w'' ⟨hx, ρ'', g1, g2, g3⟩
  exact ⟨hx, ρ'', g1, q2.trans g2, q3.trans g3 h1.1 h2.1⟩
theorem TriC.seq2 {x y : Code} {e e1 : Env} {H H1 : Heap} {z : Xit} (hz : z ≠ .normal) (h1 : TriC P nt x e H z e1 H1) : TriC P nt (.seq x y) e H z e1 H1 := by
  refine ⟨h1.1, fun ρ w a hR hD hE => wp_seq (wp_mono (h1.2 ρ w a hR hD hE) ?_)⟩
  rintro ex a' w' h
  cases z with
  | normal => exact (hz rfl).elim
  | exit i => cases ex <;> first | exact h.1.elim | exact h
  | ret => cases ex <;> first | exact h.1.elim | exact h
/-- A block that is read-only from here on: the world stays. -/
theorem Goes.frz {ρ : Ren} {hp : Nat → Option Blk} {w : World} (h : Rel ρ hp w) {b : Nat} {B : Blk} (hb : hp b = some B) {hp' : Nat → Option Blk} (he : ∀ i, hp' i = if i = b then some ⟨B.cells, true, B.sz⟩ else hp i) : Goes ρ hp w ρ hp' w := by
  have hx : ∀ i B', hp' i = some B' → ∃ B0, hp i = some B0 ∧ B0.cells = B'.cells ∧ B0.sz = B'.sz ∧ (B'.ro = false → B0 = B') := by
    intro i B' h'
    rw [he] at h'
    split at h'
    · rename_i e; subst e; cases h'; exact ⟨B, hb, rfl, rfl, fun hh => by cases hh⟩
    · exact ⟨B', h', rfl, rfl, fun _ => rfl⟩
  refine ⟨Le.refl _, ⟨fun i B' h' => ?_, fun b1 B1 b2 B2 x1 d1 x2 d2 k1 k2 hne hro a1 a2 => ?_⟩, ⟨rfl, rfl, rfl, Nat.le_refl _, fun _ _ _ => rfl⟩, fun i B' x d h' hx' => ?_⟩
  · obtain ⟨B0, g1, g2, g3, g4⟩ := hx i B' h'
    obtain ⟨b', d, m, arr, el, fr, e1, e2, e3, e4, e5⟩ := h.blk i B0 g1
    refine ⟨b', d, m, arr, el, fr, e1, e2, fun j v hv => e3 j v (by rw [g2]; exact hv), fun hr => ?_, by rw [← g2]; exact e5⟩
    have := g4 hr
    subst this
    exact e4 hr
  · obtain ⟨C1, g1, _, _, g4⟩ := hx b1 B1 k1
    obtain ⟨C2, f1, _⟩ := hx b2 B2 k2
    have := g4 hro
    subst this
    exact h.inj b1 C1 b2 C2 x1 d1 x2 d2 g1 f1 hne hro a1 a2
  · obtain ⟨B0, g1, _, _, g4⟩ := hx i B' h'
    exact .inr (.inl ⟨B0, g1, hx', fun hr => by rw [g4 hr]; exact hr⟩)
theorem frz_ok {c : Code} {e : Env} {H : Heap} {p : Option Addr} {K : Xit → Env → Heap → Option R} {r : R} {ev : Heap → Option R} (h : hfrz H p ev = some r) (ih : ∀ H', ev H' = some r → ∃ x e' H'', TriC P nt c e H' x e' H'' ∧ K x e' H'' = some r) : ∃ x e' H', TriC P nt c e H x e' H' ∧ K x e' H' = some r := by
  unfold hfrz at h
  split at h
  · rename_i b o sp
    split at h
    · rename_i B hB
      obtain ⟨x, e', H', g1, g2⟩ := ih _ h
      have hlen : (hset H b (some ⟨B.cells, true, B.sz⟩)).length = H.length := hset_length _ _ _
      have hlt : b < H.length := hblk_lt hB
      refine ⟨x, e', H', ⟨by have := g1.1; omega, fun ρ w a hR hD hE => ?_⟩, g2⟩
      have g := Goes.frz (hp' := hblk (hset H b (some ⟨B.cells, true, B.sz⟩))) hR hB (fun i => by
        rw [hset_get]
        by_cases e : i = b
        · subst e; simp [hlt]
        · simp [e])
      refine wp_mono (g1.2 ρ w a g.rel (by rw [hlen]; exact hD) hE) ?_
      rintro ex a' w' ⟨hx, ρ', q1, q2, q3⟩
      exact ⟨hx, ρ', q1, g.trans q2, by rw [hlen] at q3; exact q3⟩
    · cases h
  · cases h
theorem cond_ok {op : Operand} {z : X} (hz : trX op = some z) {thn els : Code} {e : Env} {H : Heap} {t : Bool} (ht : gx e z = .bool t) {Q : Xit → Env → Heap → Prop} (h1 : t = true → ∃ x e' H', TriC P nt thn e H x e' H' ∧ Q x e' H') (h2 : t = false → ∃ x e' H', TriC P nt els e H x e' H' ∧ Q x e' H') :
    ∃ x e' H', TriC P nt (.cond op thn els) e H x e' H' ∧ Q x e' H' := by
  have hv : ∀ (ρ : Ren) (a : Act), EnvRel ρ e a nt → a.eval op = .bool t := by
    intro ρ a hE
    have : V0 ρ (gx e z) (a.eval op) := by
      cases op with
      | tmp t => simp [trX] at hz; subst hz; exact hE.2.2 t
      | const v =>
        simp only [trX] at hz
        cases hq : ptrFree v && okv v with
        | false => rw [hq] at hz; simp at hz
        | true =>
          rw [hq] at hz; simp at hz; subst hz
          simp at hq
          exact .of (VRel.self hq.1 hq.2 ρ)
      | func f => simp [trX] at hz; subst hz; simp [gx] at ht
      | global g => simp [trX] at hz
    rw [ht] at this
    exact this.bool
  cases t with
  | true =>
    obtain ⟨x, e1, H1, g1, g2⟩ := h1 rfl
    exact ⟨x, e1, H1, ⟨g1.1, fun ρ w a hR hD hE => wp_cond (t := true) (hv ρ a hE) (g1.2 ρ w a hR hD hE)⟩, g2⟩
  | false =>
    obtain ⟨x, e1, H1, g1, g2⟩ := h2 rfl
    exact ⟨x, e1, H1, ⟨g1.1, fun ρ w a hR hD hE => wp_cond (t := false) (hv ρ a hE) (g1.2 ρ w a hR hD hE)⟩, g2⟩
theorem block_ok {id : Nat} {body : Code} {e e1 : Env} {H H1 : Heap} {x : Xit} {K : Xit → Env → Heap → Option R} {r : R} (g1 : TriC P nt body e H x e1 H1) (g2 : (match (generalizing := false) x with | .exit id' => bif Nat.beq id' id then K .normal e1 H1 else K (.exit id') e1 H1 | x => K x e1 H1) = some r) :
    ∃ x e' H', TriC P nt (.block id body) e H x e' H' ∧ K x e' H' = some r := by
  cases x with
  | normal =>
    refine ⟨.normal, e1, H1, ⟨g1.1, fun ρ w a hR hD hE => wp_block (wp_mono (g1.2 ρ w a hR hD hE) ?_)⟩, g2⟩
    rintro ex a' w' hp
    cases ex <;> first | exact hp.1.elim | exact hp
  | ret =>
    refine ⟨.ret, e1, H1, ⟨g1.1, fun ρ w a hR hD hE => wp_block (wp_mono (g1.2 ρ w a hR hD hE) ?_)⟩, g2⟩
    rintro ex a' w' hp
    cases ex <;> first | exact hp.1.elim | exact hp
  | exit i =>
    simp only at g2
    cases hq : Nat.beq i id with
    | true =>
      rw [hq, cond_true] at g2
      have := Nat.eq_of_beq_eq_true hq
      subst this
      refine ⟨.normal, e1, H1, ⟨g1.1, fun ρ w a hR hD hE => wp_block (wp_mono (g1.2 ρ w a hR hD hE) ?_)⟩, g2⟩
      rintro ex a' w' hp
      cases ex <;> first | exact hp.1.elim | skip
      obtain ⟨hx, hp⟩ := hp
      have hx' : i = _ := hx
      subst hx'
      simp only [Exit.inBlock, if_true]
      exact ⟨trivial, hp⟩
    | false =>
      rw [hq, cond_false] at g2
      have hne := Nat.ne_of_beq_eq_false hq
      refine ⟨.exit i, e1, H1, ⟨g1.1, fun ρ w a hR hD hE => wp_block (wp_mono (g1.2 ρ w a hR hD hE) ?_)⟩, g2⟩
      rintro ex a' w' hp
      cases ex <;> first | exact hp.1.elim | skip
      obtain ⟨hx, hp⟩ := hp
      have hx' : i = _ := hx
      subst hx'
      simp only [Exit.inBlock, if_neg hne]
      exact ⟨rfl, hp⟩
theorem evJ_ok (hC : CSound P C) (J : JTab R) : ∀ (t : AT) (c : Code) (ic : IC), trC P an nt t c = some ic → AllJ P nt J t c → ∀ (e : Env) (H : Heap) (K : Xit → Env → Heap → Option R) (r : R), evJ C J ic e H K = some r →
    ∃ x e' H', TriC P nt c e H x e' H' ∧ K x e' H' = some r := by
  intro t
  induction t with
  | opq i ls out t ih =>
    intro c ic htr hJ e H K r h
    simp only [trC] at htr
    split at htr
    · cases htr
      simp only [evJ] at h
      obtain ⟨x, e', H', h1, h2⟩ := hJ _ _ _ _ h
      refine ⟨x, clean e' (out.of x), H', ⟨h1.1, fun ρ w a hR hD hE => wp_mono (h1.2 ρ w a hR hD (by rw [clean_zip]; exact hE.clean ls)) ?_⟩, h2⟩
      rintro ex a' w' ⟨hx, ρ', q1, q2, q3⟩
      exact ⟨hx, ρ', q1.clean _, q2, q3⟩
    · cases htr
  | frz t a ih =>
    intro c ic htr hJ e H K r h
    simp only [trC] at htr
    split at htr
    · rename_i ic' h1
      cases htr
      simp only [evJ] at h
      split at h
      · exact frz_ok h fun H' h => ih _ _ h1 hJ _ _ _ _ h
      · cases h
    · cases htr
  | reg live bf =>
    intro c ic htr hJ e H K r h
    cases c <;> simp only [trC] at htr <;> try (cases htr; done)
    split at htr
    · rename_i ios hreg
      cases htr
      simp only [evJ] at h
      obtain ⟨e', H', h1, h2⟩ := reg_ok hC hreg h
      refine ⟨.normal, clean e' live, H', ⟨h1.1, fun ρ w a hR hD hE => wp_mono (h1.2 ρ w a hR hD hE) ?_⟩, h2⟩
      rintro ex a' w' ⟨hx, ρ', q1, q2, q3⟩
      exact ⟨hx, ρ', q1.clean live, q2, q3⟩
    · cases htr
  | leaf =>
    intro c ic htr hJ e H K r h
    cases c <;> simp only [trC] at htr <;> cases htr
    · exact ⟨.normal, e, H, ⟨Nat.le_refl _, fun ρ w a hR hD hE => wp_skip ⟨trivial, ρ, hE, .refl hR, .refl _ _ _⟩⟩, h⟩
    · rename_i id; exact ⟨.exit id, e, H, ⟨Nat.le_refl _, fun ρ w a hR hD hE => wp_exit ⟨rfl, ρ, hE, .refl hR, .refl _ _ _⟩⟩, h⟩
    · exact ⟨.ret, e, H, ⟨Nat.le_refl _, fun ρ w a hR hD hE => wp_ret ⟨trivial, ρ, hE, .refl hR, .refl _ _ _⟩⟩, h⟩
  | seq a b iha ihb =>
    intro c ic htr hJ e H K r h
    cases c <;> simp only [trC] at htr <;> try (cases htr; done)
    split at htr
    · rename_i i1 i2 h1 h2
      cases htr
      simp only [evJ] at h
      obtain ⟨x, e1, H1, g1, g2⟩ := iha _ _ h1 hJ.1 _ _ _ _ h
      cases x with
      | normal =>
        obtain ⟨z, e2, H2, g3, g4⟩ := ihb _ _ h2 hJ.2 _ _ _ _ g2
        exact ⟨z, e2, H2, g1.seq1 g3, g4⟩
      | exit i => exact ⟨_, e1, H1, g1.seq2 (by simp), g2⟩
      | ret => exact ⟨_, e1, H1, g1.seq2 (by simp), g2⟩
    · cases htr
  | cond a b iha ihb =>
    intro c ic htr hJ e H K r h
    cases c <;> simp only [trC] at htr <;> try (cases htr; done)
    split at htr
    · rename_i z i1 i2 hz h1 h2
      cases htr
      simp only [evJ] at h
      split at h
      · rename_i t ht
        exact cond_ok hz ht (fun e => by subst e; exact iha _ _ h1 hJ.1 _ _ _ _ h) (fun e => by subst e; exact ihb _ _ h2 hJ.2 _ _ _ _ h)
      · cases h
    · cases htr
  | node a iha =>
    intro c ic htr hJ e H K r h
    cases c <;> simp only [trC] at htr <;> try (cases htr; done)
    · split at htr
      · rename_i i1 h1
        cases htr
        simp only [evJ] at h
        obtain ⟨x, e1, H1, g1, g2⟩ := iha _ _ h1 hJ _ _ _ _ h
        exact block_ok g1 g2
      · cases htr
    · split at htr
      · cases htr; simp only [evJ] at h; cases h
      · cases htr
/-- A loop, by the rounds of its body. -/
theorem loop_core {c : Code} {ls : List Nat} {out : Out} (L : Nat → List Value → Heap → (Xit → Env → Heap → Option R) → Option R)
    (h0 : ∀ vals H K, L 0 vals H K = none)
    (hs : ∀ k vals H K r, L (k + 1) vals H K = some r → ∃ x e' H', TriC P nt c (ls.zip vals) H x e' H' ∧ (match x with | .normal => L k ((clean e' ls).map (·.2)) H' K | x => K x (clean e' (out.of x)) H') = some r) :
    ∀ k, JS P nt (L k) ls out (.loop c) := by
  have key : ∀ k vals H K r, L k vals H K = some r → ∃ x e' H', (H.length ≤ H'.length ∧ x ≠ .normal ∧ ∀ (ρ : Ren) (w : World) (a : Act), Rel ρ (hblk H) w → Dom ρ H.length → EnvRel ρ (ls.zip vals) a nt → Code.rounds P c (Post nt ρ H w x e' H') k a w) ∧ K x (clean e' (out.of x)) H' = some r := by
    intro k
    induction k with
    | zero => intro vals H K r h; rw [h0] at h; cases h
    | succ k ih =>
      intro vals H K r h
      obtain ⟨x, e1, H1, g1, g2⟩ := hs k vals H K r h
      cases x with
      | normal =>
        obtain ⟨x, e2, H2, ⟨k1, k2, k3⟩, k4⟩ := ih _ _ _ _ g2
        refine ⟨x, e2, H2, ⟨Nat.le_trans g1.1 k1, k2, fun ρ w a hR hD hE => ?_⟩, k4⟩
        rw [rounds_succ]
        refine wp_mono (g1.2 ρ w a hR hD hE) ?_
        rintro ex a' w' ⟨hx, ρ', q1, q2, q3⟩
        cases ex <;> first | exact hx.elim | skip
        have := k3 ρ' w' a' q2.rel (q3.dom g1.1 hD) (by rw [clean_zip]; exact q1.clean ls)
        have mono : ∀ n a w (Q Q' : Exit → Act → World → Prop), (∀ e a w, Q e a w → Q' e a w) → Code.rounds P c Q n a w → Code.rounds P c Q' n a w := by
          intro n
          induction n with
          | zero => intro a w Q Q' _ h; exact h.elim
          | succ n ihn =>
            intro a w Q Q' hq h
            rw [rounds_succ] at h ⊢
            refine wp_mono h ?_
            intro e a w he
            cases e <;> first | exact ihn _ _ _ _ hq he | exact hq _ _ _ he
        refine mono k a' w' _ _ ?_ this
        rintro ex a'' w'' ⟨hx, ρ'', p1, p2, p3⟩
        exact ⟨hx, ρ'', p1, q2.trans p2, q3.trans p3 g1.1 k1⟩
      | exit i =>
        refine ⟨.exit i, e1, H1, ⟨g1.1, by simp, fun ρ w a hR hD hE => ?_⟩, g2⟩
        rw [rounds_succ]
        refine wp_mono (g1.2 ρ w a hR hD hE) ?_
        rintro ex a' w' hp
        cases ex <;> first | exact hp.1.elim | exact hp
      | ret =>
        refine ⟨.ret, e1, H1, ⟨g1.1, by simp, fun ρ w a hR hD hE => ?_⟩, g2⟩
        rw [rounds_succ]
        refine wp_mono (g1.2 ρ w a hR hD hE) ?_
        rintro ex a' w' hp
        cases ex <;> first | exact hp.1.elim | exact hp
  intro k vals H K r h
  obtain ⟨x, e', H', ⟨k1, k2, k3⟩, k4⟩ := key k vals H K r h
  exact ⟨x, e', H', ⟨k1, fun ρ w a hR hD hE => wp_loop_rounds k (k3 ρ w a hR hD hE)⟩, k4⟩
theorem loop_ok (hC : CSound P C) (J : JTab R) {t : AT} {c : Code} {ic : IC} (htr : trC P an nt t c = some ic) (hJ : AllJ P nt J t c) {ls : List Nat} {out : Out} (L : Nat → List Value → Heap → (Xit → Env → Heap → Option R) → Option R)
    (h0 : ∀ vals H K, L 0 vals H K = none)
    (hs : ∀ k vals H K r, L (k + 1) vals H K = some r → evJ C J ic (ls.zip vals) H (fun x e' H' => match x with | .normal => L k ((clean e' ls).map (·.2)) H' K | x => K x (clean e' (out.of x)) H') = some r) :
    ∀ k, JS P nt (L k) ls out (.loop c) := loop_core L h0 fun k vals H K r h => evJ_ok hC J t c ic htr hJ _ _ _ _ (hs k vals H K r h)
/-- A piece of code that is no loop. -/
theorem piece_ok (hC : CSound P C) (J : JTab R) {t : AT} {c : Code} {ic : IC} (htr : trC P an nt t c = some ic) (hJ : AllJ P nt J t c) {ls : List Nat} {out : Out} (L : List Value → Heap → (Xit → Env → Heap → Option R) → Option R)
    (hs : ∀ vals H K r, L vals H K = some r → evJ C J ic (ls.zip vals) H (fun x e' H' => K x (clean e' (out.of x)) H') = some r) : JS P nt L ls out c :=
  fun vals H K r h => evJ_ok hC J t c ic htr hJ _ _ _ _ (hs vals H K r h)
def trRV (P : Program) (r : ResultVar) : Option RV :=
  match r with
  | .tmp t => some (.t t)
  | .cell a t => match sz P t with
    | some n => bif isAg P t then (bif Nat.beq (kinds P 6 t).length n && !(Nat.beq n 0) then some (.cell a (vkOf P t)) else none) else
        (match P.underlying t with | some _ => some (.cell a (vkOf P t)) | none => none)
    | none => none
def trRVs (P : Program) : List ResultVar → Option (List RV)
  | [] => some []
  | r :: rs => match trRV P r, trRVs P rs with
    | some x, some xs => some (x :: xs)
    | _, _ => none
/-- A function's resolved form. -/
def trF (P : Program) (an : Ann) (t : AT) (fn : Func) : Option IFn :=
  bif Nat.ble (fn.params.size + fn.nfree) fn.ntmps && !(fn.name == "runtime.NumGoroutine") then
    (match fn.body with
     | some c => match trC P an fn.ntmps t c, trRVs P fn.results.toList with
       | some ic, some rs => some ⟨fn.ntmps, rs, ic⟩
       | _, _ => none
     | none => none) else none
/-- A result, read when the function leaves. -/
def resSem (a : Act) (rv : ResultVar) : Sem Value :=
  match rv with
  | .tmp t => pure (a.tmps.getD t undef)
  | .cell b t => do loadVar t (← asAddr (a.tmps.getD b undef))
theorem rv_ok {rv : ResultVar} {x : RV} (htr : trRV P rv = some x) {e : Env} {H : Heap} {K : Value → Option R} {r : R} (h : evRV e H x K = some r) :
    ∃ v, K v = some r ∧ okv v = true ∧ ∀ (ρ : Ren) (w : World) (a : Act), Rel ρ (hblk H) w → EnvRel ρ e a nt → ∃ v', VRel ρ v v' ∧ (resSem a rv).run P w = .ok v' w := by
  cases rv with
  | tmp t =>
    simp only [trRV] at htr
    cases htr
    simp only [evRV] at h
    cases hk : okv (eget e t) with
    | false => rw [hk] at h; cases h
    | true =>
      rw [hk, cond_true] at h
      exact ⟨_, h, hk, fun ρ w a _ hE => ⟨_, (hE.2.2 t).rel hk, by simp [resSem]⟩⟩
  | cell b t =>
    have main : ∀ (n : Nat) (d : TypeDesc), sz P t = some n → P.underlying t = some d → (isAg P t = true → (kinds P 6 t).length = n ∧ n ≠ 0) → evRV e H (.cell b (vkOf P t)) K = some r →
        ∃ v, K v = some r ∧ okv v = true ∧ ∀ (ρ : Ren) (w : World) (a : Act), Rel ρ (hblk H) w → EnvRel ρ e a nt → ∃ v', VRel ρ v v' ∧ (resSem a (.cell b t)).run P w = .ok v' w := by
      intro n d hs hd hk h
      simp only [evRV] at h
      split at h
      · rename_i p hp
        have h' : (match vkOf P t with
          | .sc s => ldS s H p fun v => bif okv v then K v else none
          | .agg ks => ldN ks H p 0 fun vs => (fun v => bif okv v then K v else none) (.agg ⟨vs⟩)) = some r := by
          cases hv : vkOf P t with
          | sc s => rw [hv] at h; exact h
          | agg ks => rw [hv] at h; exact h
        obtain ⟨v, h1, h2⟩ := load_rel (K' := fun v => bif okv v then K v else none) hd hs hk h'
        cases hok : okv v with
        | false => rw [hok] at h1; cases h1
        | true =>
          rw [hok, cond_true] at h1
          refine ⟨v, h1, hok, fun ρ w a hR hE => ?_⟩
          have q1 := hE.2.2 b
          rw [hp] at q1
          obtain ⟨a', v', g1, g2, g3⟩ := h2 ρ (hblk H) w _ hR (fun _ _ _ => rfl) q1
          refine ⟨v', g2, ?_⟩
          unfold resSem
          simp only [g1]
          simp [asAddr, g3]
      · cases h
    simp only [trRV] at htr
    split at htr
    · rename_i n hs
      cases hA : isAg P t with
      | true =>
        rw [hA, cond_true] at htr
        cases hk : Nat.beq (kinds P 6 t).length n && !(Nat.beq n 0) with
        | false => rw [hk] at htr; cases htr
        | true =>
          rw [hk] at htr; cases htr
          simp only [Bool.and_eq_true, Bool.not_eq_true'] at hk
          have hd : ∃ d, P.underlying t = some d := by
            unfold isAg at hA
            cases hq : P.underlying t with
            | none => rw [hq] at hA; cases hA
            | some d => exact ⟨d, rfl⟩
          obtain ⟨d, hd⟩ := hd
          exact main n d hs hd (fun _ => ⟨Nat.eq_of_beq_eq_true hk.1, Nat.ne_of_beq_eq_false hk.2⟩) h
      | false =>
        rw [hA, cond_false] at htr
        split at htr
        · rename_i d hd; cases htr; exact main n d hs hd (fun hh => by rw [hA] at hh; cases hh) h
        · cases htr
    · cases htr
theorem rvs_ok {e : Env} {H : Heap} {r : R} : ∀ {rvs : List ResultVar} {xs : List RV} {K : List Value → Option R}, trRVs P rvs = some xs → evRVs e H xs K = some r →
    ∃ vs, K vs = some r ∧ vs.length = rvs.length ∧ ∀ (ρ : Ren) (w : World) (a : Act), Rel ρ (hblk H) w → EnvRel ρ e a nt → ∃ vs', LRel ρ vs vs' ∧ (rvs.mapM (resSem a)).run P w = .ok vs' w := by
  intro rvs
  induction rvs with
  | nil => intro xs K htr h; simp [trRVs] at htr; subst htr; exact ⟨[], h, rfl, fun ρ w a _ _ => ⟨[], .nil, by simp⟩⟩
  | cons rv rvs ih =>
    intro xs K htr h
    simp only [trRVs] at htr
    split at htr
    · rename_i x xs' h1 h2
      cases htr
      simp only [evRVs] at h
      obtain ⟨v, g1, g2, g3⟩ := rv_ok (nt := nt) h1 h
      obtain ⟨vs, k1, k2, k3⟩ := ih (K := fun vs => K (v :: vs)) h2 g1
      refine ⟨v :: vs, k1, by simp [k2], fun ρ w a hR hE => ?_⟩
      obtain ⟨v', p1, p2⟩ := g3 ρ w a hR hE
      obtain ⟨vs', p3, p4⟩ := k3 ρ w a hR hE
      exact ⟨v' :: vs', .cons p1 p3, by simp [List.mapM_cons, p2, p4]⟩
    · cases htr
theorem eget_zipT (args : List Value) : ∀ (i t : Nat), eget (zipT i args) t = if i ≤ t then (args[t - i]?).getD undef else undef := by
  induction args with
  | nil => intro i t; simp [zipT, eget]
  | cons v vs ih =>
    intro i t
    simp only [zipT, eget]
    by_cases c : i = t
    · subst c
      have : Nat.beq i i = true := Nat.beq_refl i
      rw [this, cond_true]; simp
    · rw [beqF c, cond_false, ih]
      by_cases d : i + 1 ≤ t
      · rw [if_pos d, if_pos (by omega), show t - i = (t - (i + 1)) + 1 from by omega, List.getElem?_cons_succ]
      · rw [if_neg d, if_neg (by omega)]
/-- THE FUNCTION: what its resolved form comes to, the model's function returns. -/
theorem fn_ok {t : AT} {f : Nat} {fn : Func} {ifn : IFn} {c : Code} (hf : P.funcs[f]? = some fn) (hb : fn.body = some c) (htr : trF P an t fn = some ifn)
    {args : List Value} {H : Heap} {K : Value → Heap → Option R} {r : R} (hl : args.length = fn.params.size + fn.nfree) {ev : (Xit → Env → Heap → Option R) → Option R}
    (hev : ∀ ic, trC P an fn.ntmps t c = some ic → ifn.body = ic → ∀ K r, ev K = some r → ∃ x e' H', TriC P fn.ntmps c (zipT 0 args) H x e' H' ∧ K x e' H' = some r)
    (h : ev (fun x e H => match x with | .exit _ => none | _ => evRVs e H ifn.res fun vs => K (tupled vs) H) = some r) : ∃ v H', Tri P f args H v H' ∧ K v H' = some r := by
  unfold trF at htr
  cases hc : Nat.ble (fn.params.size + fn.nfree) fn.ntmps && !(fn.name == "runtime.NumGoroutine") with
  | false => rw [hc] at htr; cases htr
  | true =>
    rw [hc, cond_true] at htr
    simp only [Bool.and_eq_true, Bool.not_eq_true'] at hc
    have hp := Nat.le_of_ble_eq_true hc.1
    rw [hb] at htr
    simp only at htr
    · split at htr
      · rename_i ic rs h1 h2
        cases htr
        obtain ⟨x, e', H', g1, g2⟩ := hev ic h1 rfl _ _ h
        have main : evRVs e' H' rs (fun vs => K (tupled vs) H') = some r → (x = .normal ∨ x = .ret) → ∃ v H', Tri P f args H v H' ∧ K v H' = some r := by
          intro h hx
          obtain ⟨vs, k1, k2, k3⟩ := rvs_ok (nt := fn.ntmps) h2 h
          refine ⟨_, H', ⟨⟨fn, hf, by simp [hb], hc.2⟩, g1.1, fun ρ w args' hR hD hA => ?_⟩, k1⟩
          refine calls_of_wp hf hb (wp_mono (g1.2 ρ w _ hR hD ⟨rfl, ?_, fun t => ?_⟩) ?_)
          · have := hA.1
            show fn.ntmps ≤ ((⟨args'⟩ : Array Value) ++ Array.replicate (fn.ntmps - (⟨args'⟩ : Array Value).size) undef).size
            rw [Array.size_append, Array.size_replicate]
            omega
          · rw [eget_zipT]
            simp only [Nat.zero_le, if_true, Nat.sub_zero]
            by_cases ct : t < args.length
            · have ct' : t < args'.length := by rw [← hA.1]; exact ct
              have e1 : args[t]? = some args[t] := List.getElem?_eq_getElem ct
              have e2 : args'[t]? = some args'[t] := List.getElem?_eq_getElem ct'
              rw [e1]
              have : ((⟨args'⟩ : Array Value) ++ Array.replicate (fn.ntmps - (⟨args'⟩ : Array Value).size) undef).getD t undef = args'[t] := by
                simp [Array.getElem?_append, ct']
              rw [this]
              exact .of (hA.2 t _ _ e1 e2)
            · rw [List.getElem?_eq_none (by omega)]
              exact .inl rfl
          · intro ex a' w' hp
            have fin : Post fn.ntmps ρ H w x e' H' ex a' w' → a'.defers = [] ∧ ∃ v, (results fn a'.tmps).run P w' = .ok v w' ∧ ∃ ρ' v', Ending.returned v = .returned v' ∧ V0 ρ' (tupled vs) v' ∧ Goes ρ (hblk H) w ρ' (hblk H') w' ∧ Grow ρ ρ' H.length H'.length := by
              rintro ⟨_, ρ', q1, q2, q3⟩
              obtain ⟨vs', p1, p2⟩ := k3 ρ' w' a' q2.rel q1
              have hres : (results fn a'.tmps).run P w' = .ok (tupled vs') w' := by
                have e1 : results fn a'.tmps = (do let vs ← fn.results.mapM (resSem a'); pure (if h : vs.size = 1 then vs[0] else .tuple vs)) := rfl
                rw [e1, Array.mapM_eq_mapM_toList]
                simp [p2]
                cases vs' with
                | nil => simp [tupled]
                | cons v vs' => cases vs' with
                  | nil => simp [tupled]
                  | cons u us => simp [tupled]
              refine ⟨q1.1, _, hres, ρ', _, rfl, ?_, q2, q3⟩
              cases vs with
              | nil => have := p1.1; simp at this; exact .inl rfl
              | cons v vs =>
                cases vs' with
                | nil => have := p1.1; simp at this
                | cons v' vs' =>
                  cases vs with
                  | nil => cases vs' with
                    | nil => exact .of (p1.2 0 _ _ rfl rfl)
                    | cons _ _ => have := p1.1; simp at this
                  | cons u us => cases vs' with
                    | nil => have := p1.1; simp at this
                    | cons u' us' => exact .of (.tup p1.1 p1.2)
            rcases hx with rfl | rfl
            · cases ex <;> first | exact hp.1.elim | exact fin hp
            · cases ex <;> first | exact hp.1.elim | exact fin hp
        cases x with
        | exit i => cases g2
        | normal => exact main g2 (.inl rfl)
        | ret => exact main g2 (.inr rfl)
      · cases htr
theorem evF_ok (hC : CSound P C) (J : JTab R) {t : AT} {f : Nat} {fn : Func} {ifn : IFn} {c : Code} (hf : P.funcs[f]? = some fn) (hb : fn.body = some c) (htr : trF P an t fn = some ifn) (hJ : AllJ P fn.ntmps J t c)
    {args : List Value} {H : Heap} {K : Value → Heap → Option R} {r : R} (hl : args.length = fn.params.size + fn.nfree) (h : evF C J ifn args H K = some r) : ∃ v H', Tri P f args H v H' ∧ K v H' = some r :=
  fn_ok hf hb htr hl (ev := fun K => evJ C J ifn.body (zipT 0 args) H K) (fun ic h1 e => by subst e; exact fun K r h => evJ_ok hC J t c _ h1 hJ _ _ _ _ h) h
theorem trF_body {t : AT} {fn : Func} {ifn : IFn} (htr : trF P an t fn = some ifn) : ∃ c, fn.body = some c := by
  unfold trF at htr
  cases hc : Nat.ble (fn.params.size + fn.nfree) fn.ntmps && !(fn.name == "runtime.NumGoroutine") with
  | false => rw [hc] at htr; cases htr
  | true =>
    rw [hc, cond_true] at htr
    split at htr
    · rename_i c h; exact ⟨c, h⟩
    · cases htr
theorem someD {α : Type} {x : Option α} (d : α) (h : x.isSome = true) : x = some (x.getD d) := by
  cases x with
  | none => cases h
  | some a => rfl
theorem csound_nil : CSound P (fun _ _ _ _ => none : Tab R) := fun _ _ _ _ _ h => by cases h
theorem csound_cons {f0 : Nat} {c : List Value → Heap → (Value → Heap → Option R) → Option R} {C : Tab R} (h : ∀ args H K r, c args H K = some r → ∃ v H', Tri P f0 args H v H' ∧ K v H' = some r) (hC : CSound P C) : CSound P (tcons f0 c C) := by
  intro f args H K r hr
  unfold tcons at hr
  cases hf : Nat.beq f f0 with
  | true => rw [hf, cond_true] at hr; rw [Nat.eq_of_beq_eq_true hf]; exact h args H K r hr
  | false => rw [hf, cond_false] at hr; exact hC f args H K r hr
end
end Go.Proofs.Ytjajknghcbpblaa.FW
