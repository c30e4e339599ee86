/- A run without a word of its own for each function: closed calls, met by the resolved code itself. -/
import Derived.Test.YtjajknghcbpblaaFwL
set_option linter.unusedVariables false
set_option linter.unusedSimpArgs false
namespace Go.Proofs.Ytjajknghcbpblaa.FW
variable {P : Program} {R : Type}
def loopD (ls : List Nat) (body : Env → Heap → (Xit → Env → Heap → Option R) → Option R) : Nat → Env → Heap → (Xit → Env → Heap → Option R) → Option R
  | 0, _, _, _ => none
  | n + 1, e, H, K => body e H fun x e H => match x with
    | .normal => loopD ls body n (clean e ls) H K
    | x => K x e H
def evD (C : Tab R) (m : Nat) : AT → IC → Env → Heap → (Xit → Env → Heap → Option R) → Option R
  | .opq _ ls out t, ic, e, H, K => match ic with
    | .opq _ _ (.loop b) => (match t with
      | .node t => loopD ls (evD C m t b) m (clean e ls) H fun x e H => K x (clean e (out.of x)) H
      | _ => none)
    | .opq _ _ c => evD C m t c (clean e ls) H fun x e H => K x (clean e (out.of x)) H
    | _ => none
  | .frz _ a, ic, e, H, K => match ic with
    | .frz t c => (match eget e t with
      | .pointer p => hfrz H p fun H => evD C m a c e H K
      | _ => none)
    | _ => none
  | .reg _ _, ic, e, H, K => match ic with
    | .reg ops live => evOps C H ops 0 [] e H fun e H => K .normal (clean e live) H
    | _ => none
  | .leaf, ic, e, H, K => match ic with
    | .skip => K .normal e H
    | .exit id => K (.exit id) e H
    | .ret => K .ret e H
    | _ => none
  | .seq a b, ic, e, H, K => match ic with
    | .seq x y => evD C m a x e H fun z e H => match z with
      | .normal => evD C m b y e H K
      | z => K z e H
    | _ => none
  | .cond a b, ic, e, H, K => match ic with
    | .cond x c d => (match gx e x with
      | .bool t => bif t then evD C m a c e H K else evD C m b d e H K
      | _ => none)
    | _ => none
  | .node a, ic, e, H, K => match ic with
    | .block id b => evD C m a b e H fun x e H => match x with
      | .exit id' => bif Nat.beq id' id then K .normal e H else K (.exit id') e H
      | x => K x e H
    | _ => none
section
variable {C : Tab R} {an : Ann} {nt : Nat}
theorem loopD_ok {c : Code} {ls : List Nat} {out : Out} {body : Env → Heap → (Xit → Env → Heap → Option R) → Option R} (hb : ∀ e H K r, body e H K = some r → ∃ x e' H', TriC P nt c e H x e' H' ∧ K x e' H' = some r) (m : Nat) {e : Env} {H : Heap} {K : Xit → Env → Heap → Option R} {r : R}
    (h : loopD ls body m (clean e ls) H (fun x e H => K x (clean e (out.of x)) H) = some r) : ∃ x e' H', TriC P nt (.loop c) (clean e ls) H x e' H' ∧ K x (clean e' (out.of x)) H' = some r := by
  have hJ := loop_core (P := P) (nt := nt) (c := c) (ls := ls) (out := out) (R := R) (fun n vals H K => loopD ls body n (ls.zip vals) H (fun x e H => K x (clean e (out.of x)) H)) (fun _ _ _ => rfl) (fun k vals H K r h => by
    obtain ⟨x, e', H', g1, g2⟩ := hb _ _ _ _ h
    refine ⟨x, e', H', g1, ?_⟩
    cases x with
    | normal => simp only [clean_zip]; exact g2
    | exit i => exact g2
    | ret => exact g2) m ((clean e ls).map (·.2)) H K r (by show loopD ls body m (ls.zip _) H _ = _; rw [clean_zip]; exact h)
  rw [clean_zip] at hJ
  exact hJ
theorem evD_ok (hC : CSound P C) (m : Nat) (t : AT) : (∀ (c : Code) (ic : IC), trC P an nt t c = some ic → ∀ (e : Env) (H : Heap) (K : Xit → Env → Heap → Option R) (r : R), evD C m t ic e H K = some r →
    ∃ x e' H', TriC P nt c e H x e' H' ∧ K x e' H' = some r) ∧ ∀ t2, t = .node t2 → ∀ (c : Code) (ic : IC), trC P an nt t2 c = some ic → ∀ (e : Env) (H : Heap) (K : Xit → Env → Heap → Option R) (r : R), evD C m t2 ic e H K = some r →
    ∃ x e' H', TriC P nt c e H x e' H' ∧ K x e' H' = some r := by
  induction t with
  | opq i ls out t ih =>
    refine ⟨fun c ic htr e H K r h => ?_, fun t2 h => by cases h⟩
    simp only [trC] at htr
    split at htr
    · rename_i ic' h1
      cases htr
      obtain ⟨x, e', H', g1, g2⟩ : ∃ x e' H', TriC P nt c (clean e ls) H x e' H' ∧ K x (clean e' (out.of x)) H' = some r := by
        unfold evD at h
        split at h
        · rename_i i2 ls2 b heq
          injection heq with _ _ hb
          subst hb
          split at h
          · rename_i t2
            cases c <;> simp only [trC] at h1
            all_goals try (cases h1; done)
            · split at h1 <;> cases h1
            · split at h1
              · rename_i b2 h2
                cases h1
                exact loopD_ok (fun e H K r h => ih.2 t2 rfl _ _ h2 e H K r h) m h
              · cases h1
          · cases h
        · rename_i i2 ls2 c2 hn heq
          injection heq with _ _ hb
          subst hb
          exact ih.1 _ _ h1 _ _ (fun x e H => K x (clean e (out.of x)) H) _ h
        · rename_i hn; exact (hn _ _ _ rfl).elim
      refine ⟨x, clean e' (out.of x), H', ⟨g1.1, fun ρ w a hR hD hE => wp_mono (g1.2 ρ w a hR hD (hE.clean ls)) ?_⟩, g2⟩
      rintro ex a' w' ⟨hx, ρ', q1, q2, q3⟩
      exact ⟨hx, ρ', q1.clean _, q2, q3⟩
    · cases htr
  | frz t a ih =>
    refine ⟨fun c ic htr e H K r h => ?_, fun t2 h => by cases h⟩
    simp only [trC] at htr
    split at htr
    · rename_i ic' h1
      cases htr
      unfold evD at h
      dsimp only at h
      split at h
      · exact frz_ok h fun H' h => ih.1 _ _ h1 _ _ _ _ h
      · cases h
    · cases htr
  | reg live bf =>
    refine ⟨fun c ic htr e H K r h => ?_, fun t2 h => by cases h⟩
    cases c <;> simp only [trC] at htr <;> try (cases htr; done)
    split at htr
    · rename_i ios hreg
      cases htr
      unfold evD at h
      obtain ⟨e', H', h1, h2⟩ := reg_ok hC hreg h
      refine ⟨.normal, clean e' live, H', ⟨h1.1, fun ρ w a hR hD hE => wp_mono (h1.2 ρ w a hR hD hE) ?_⟩, h2⟩
      rintro ex a' w' ⟨hx, ρ', q1, q2, q3⟩
      exact ⟨hx, ρ', q1.clean live, q2, q3⟩
    · cases htr
  | leaf =>
    refine ⟨fun c ic htr e H K r h => ?_, fun t2 h => by cases h⟩
    cases c <;> simp only [trC] at htr <;> cases htr <;> unfold evD at h
    · exact ⟨.normal, e, H, ⟨Nat.le_refl _, fun ρ w a hR hD hE => wp_skip ⟨trivial, ρ, hE, .refl hR, .refl _ _ _⟩⟩, h⟩
    · rename_i id; exact ⟨.exit id, e, H, ⟨Nat.le_refl _, fun ρ w a hR hD hE => wp_exit ⟨rfl, ρ, hE, .refl hR, .refl _ _ _⟩⟩, h⟩
    · exact ⟨.ret, e, H, ⟨Nat.le_refl _, fun ρ w a hR hD hE => wp_ret ⟨trivial, ρ, hE, .refl hR, .refl _ _ _⟩⟩, h⟩
  | seq a b iha ihb =>
    refine ⟨fun c ic htr e H K r h => ?_, fun t2 h => by cases h⟩
    cases c <;> simp only [trC] at htr <;> try (cases htr; done)
    split at htr
    · rename_i i1 i2 h1 h2
      cases htr
      unfold evD at h
      obtain ⟨x, e1, H1, g1, g2⟩ := iha.1 _ _ h1 _ _ _ _ h
      cases x with
      | normal =>
        obtain ⟨z, e2, H2, g3, g4⟩ := ihb.1 _ _ h2 _ _ _ _ g2
        exact ⟨z, e2, H2, g1.seq1 g3, g4⟩
      | exit i => exact ⟨_, e1, H1, g1.seq2 (by simp), g2⟩
      | ret => exact ⟨_, e1, H1, g1.seq2 (by simp), g2⟩
    · cases htr
  | cond a b iha ihb =>
    refine ⟨fun c ic htr e H K r h => ?_, fun t2 h => by cases h⟩
    cases c <;> simp only [trC] at htr <;> try (cases htr; done)
    split at htr
    · rename_i z i1 i2 hz h1 h2
      cases htr
      unfold evD at h
      dsimp only at h
      split at h
      · rename_i t ht
        exact cond_ok hz ht (fun e => by subst e; exact iha.1 _ _ h1 _ _ _ _ h) (fun e => by subst e; exact ihb.1 _ _ h2 _ _ _ _ h)
      · cases h
    · cases htr
  | node a iha =>
    refine ⟨fun c ic htr e H K r h => ?_, fun t2 h => by cases h; exact iha.1⟩
    cases c <;> simp only [trC] at htr <;> try (cases htr; done)
    · split at htr
      · rename_i i1 h1
        cases htr
        unfold evD at h
        obtain ⟨x, e1, H1, g1, g2⟩ := iha.1 _ _ h1 _ _ _ _ h
        exact block_ok g1 g2
      · cases htr
    · split at htr
      · cases htr; unfold evD at h; cases h
      · cases htr
/-- A function that is run: its number, its way, itself. -/
structure DE where
  f : Nat
  t : AT
  fn : Func
def dfind : List DE → Nat → Option DE
  | [], _ => none
  | d :: ds, f => bif Nat.beq d.f f then some d else dfind ds f
def runD (D : List DE) (P : Program) (an : Ann) (m : Nat) (R : Type) : Nat → Tab R
  | 0 => fun _ _ _ _ => none
  | n + 1 => fun f args H K => match dfind D f with
    | some d => match trF P an d.t d.fn with
      | some ifn => bif Nat.beq args.length (d.fn.params.size + d.fn.nfree) then evD (runD D P an m R n) m d.t ifn.body (zipT 0 args) H (fun x e H => match x with
        | .exit _ => none
        | _ => evRVs e H ifn.res fun vs => K (tupled vs) H) else none
      | none => none
    | none => none
def DOk (P : Program) : List DE → Prop
  | [] => True
  | d :: ds => P.funcs[d.f]? = some d.fn ∧ DOk P ds
theorem dfind_ok {D : List DE} (h : DOk P D) {f : Nat} {d : DE} (e : dfind D f = some d) : P.funcs[f]? = some d.fn := by
  induction D with
  | nil => cases e
  | cons d0 D ih =>
    simp only [dfind] at e
    cases hb : Nat.beq d0.f f with
    | true => rw [hb] at e; cases e; rw [← Nat.eq_of_beq_eq_true hb]; exact h.1
    | false => rw [hb] at e; exact ih h.2 e
theorem runD_ok {D : List DE} (hD : DOk P D) (an : Ann) (m : Nat) : ∀ n, CSound P (runD D P an m R n) := by
  intro n
  induction n with
  | zero => intro f args H K r h; cases h
  | succ n ih =>
    intro f args H K r h
    unfold runD at h
    split at h
    · rename_i d hd
      split at h
      · rename_i ifn hf
        cases hl : Nat.beq args.length (d.fn.params.size + d.fn.nfree) with
        | false => rw [hl] at h; cases h
        | true =>
          rw [hl, cond_true] at h
          obtain ⟨c, hc⟩ := trF_body hf
          exact fn_ok (ev := fun K => evD (runD D P an m R n) m d.t ifn.body (zipT 0 args) H K) (dfind_ok hD hd) hc hf (Nat.eq_of_beq_eq_true hl) (fun ic h1 e => by subst e; exact fun K r h => (evD_ok ih m d.t).1 _ _ h1 _ _ _ _ h) h
      · cases h
    · cases h
/-- A function without arguments that has been run so. -/
theorem closedD_ok {D : List DE} (hD : DOk P D) {an : Ann} {m n f : Nat} {b : Bool} (h : runD D P an m Bool n f [] [] asB = some b) (H : Heap) : Tri P f [] H (.bool b) H :=
  closed_ok (f := f) (c := fun R k => runD D P an m R n f) (fun R k args H K r h => runD_ok hD an m n f args H K r h) (k := 0) h H
end
end Go.Proofs.Ytjajknghcbpblaa.FW
