/- Words for many functions at once: how a Go function's and a loop's Lean form are called, by a list of signs. -/
import Derived.Test.YtjajknghcbpblaaFwR
set_option linter.unusedVariables false
set_option linter.unusedSimpArgs false
namespace Go.Proofs.Ytjajknghcbpblaa.FW
/-- What comes next: a number, a bit, an address, a string, a slice, no function, a group of n values as a struct, a function with n captures. -/
inductive Tk where
  | i (k : IntKind) | b | p | s | l | nf | a (n : Nat) | f (f n : Nat)
def Fn : List Tk → Type → Type
  | [], T => T
  | .i _ :: ts, T => Int → Fn ts T
  | .b :: ts, T => Bool → Fn ts T
  | .p :: ts, T => Option Addr → Fn ts T
  | .s :: ts, T => ByteArray → Fn ts T
  | .l :: ts, T => Option Addr → Nat → Nat → Fn ts T
  | .nf :: ts, T => Fn ts T
  | .a _ :: ts, T => Fn ts T
  | .f _ _ :: ts, T => Fn ts T
def lam {T : Type} : (ts : List Tk) → (List Value → T) → Fn ts T
  | [], c => c []
  | .i k :: ts, c => fun n => lam ts fun vs => c (.int k n :: vs)
  | .b :: ts, c => fun n => lam ts fun vs => c (.bool n :: vs)
  | .p :: ts, c => fun n => lam ts fun vs => c (.pointer n :: vs)
  | .s :: ts, c => fun n => lam ts fun vs => c (.string n :: vs)
  | .l :: ts, c => fun p l n => lam ts fun vs => c (.slice p l n :: vs)
  | .nf :: ts, c => lam ts fun vs => c (.nilFunc :: vs)
  | .a n :: ts, c => lam ts fun vs => c (.agg ⟨vs.take n⟩ :: vs.drop n)
  | .f g n :: ts, c => lam ts fun vs => c (.func (.func g) ⟨[]⟩ ⟨vs.take n⟩ :: vs.drop n)
def mapT {T U : Type} (h : T → U) : (ts : List Tk) → Fn ts T → Fn ts U
  | [], g => h g
  | .i _ :: ts, g => fun n => mapT h ts (g n)
  | .b :: ts, g => fun n => mapT h ts (g n)
  | .p :: ts, g => fun n => mapT h ts (g n)
  | .s :: ts, g => fun n => mapT h ts (g n)
  | .l :: ts, g => fun p l n => mapT h ts (g p l n)
  | .nf :: ts, g => mapT h ts g
  | .a _ :: ts, g => mapT h ts g
  | .f _ _ :: ts, g => mapT h ts g
def app {T U : Type} : (ts : List Tk) → Fn ts T → List Value → (T → Option U) → Option U
  | [], g, vs, c => match vs with
    | [] => c g
    | _ => none
  | .i k :: ts, g, vs, c => match vs with
    | .int k' n :: vs => bif ikeq k k' then app ts (g n) vs c else none
    | _ => none
  | .b :: ts, g, vs, c => match vs with
    | .bool n :: vs => app ts (g n) vs c
    | _ => none
  | .p :: ts, g, vs, c => match vs with
    | .pointer n :: vs => app ts (g n) vs c
    | _ => none
  | .s :: ts, g, vs, c => match vs with
    | .string n :: vs => app ts (g n) vs c
    | _ => none
  | .l :: ts, g, vs, c => match vs with
    | .slice p l n :: vs => app ts (g p l n) vs c
    | _ => none
  | .nf :: ts, g, vs, c => match vs with
    | .nilFunc :: vs => app ts g vs c
    | _ => none
  | .a n :: ts, g, vs, c => match vs with
    | .agg cs :: vs => bif Nat.beq cs.toList.length n then app ts g (cs.toList ++ vs) c else none
    | _ => none
  | .f h n :: ts, g, vs, c => match vs with
    | .func (.func h') ⟨[]⟩ cs :: vs => bif Nat.beq h h' && Nat.beq cs.toList.length n then app ts g (cs.toList ++ vs) c else none
    | _ => none
theorem app_lam {T U : Type} (c : T → Option U) {r : U} : ∀ (ts : List Tk) (E : List Value → T) (vs : List Value), app ts (lam ts E) vs c = some r → c (E vs) = some r := by
  intro ts
  induction ts with
  | nil => intro E vs h; cases vs <;> first | exact h | cases h
  | cons t ts ih =>
    intro E vs h
    cases t with
    | i k =>
      simp only [app] at h
      split at h
      · rename_i k' n vs'
        cases hk : ikeq k k' with
        | false => rw [hk] at h; cases h
        | true =>
          rw [hk] at h
          have := ih (fun vs => E (.int k n :: vs)) _ h
          rw [ikeq_eq hk] at this
          exact this
      · cases h
    | b => simp only [app] at h; split at h <;> first | exact ih (fun vs => E (.bool _ :: vs)) _ h | cases h
    | p => simp only [app] at h; split at h <;> first | exact ih (fun vs => E (.pointer _ :: vs)) _ h | cases h
    | s => simp only [app] at h; split at h <;> first | exact ih (fun vs => E (.string _ :: vs)) _ h | cases h
    | l => simp only [app] at h; split at h <;> first | exact ih (fun vs => E (.slice _ _ _ :: vs)) _ h | cases h
    | nf => simp only [app] at h; split at h <;> first | exact ih (fun vs => E (.nilFunc :: vs)) _ h | cases h
    | a n =>
      simp only [app] at h
      split at h
      · rename_i cs vs'
        cases hn : Nat.beq cs.toList.length n with
        | false => rw [hn] at h; cases h
        | true =>
          rw [hn] at h
          have hl := Nat.eq_of_beq_eq_true hn
          subst hl
          have := ih (fun vs => E (.agg ⟨vs.take cs.toList.length⟩ :: vs.drop cs.toList.length)) _ h
          simp only [List.take_left, List.drop_left] at this
          exact this
      · cases h
    | f g n =>
      simp only [app] at h
      split at h
      · rename_i g' cs vs'
        cases hn : Nat.beq g g' && Nat.beq cs.toList.length n with
        | false => rw [hn] at h; cases h
        | true =>
          rw [hn] at h
          rw [Bool.and_eq_true] at hn
          have hl := Nat.eq_of_beq_eq_true hn.2
          have hf := Nat.eq_of_beq_eq_true hn.1
          subst hl hf
          have := ih (fun vs => E (.func (.func g) ⟨[]⟩ ⟨vs.take cs.toList.length⟩ :: vs.drop cs.toList.length)) _ h
          simp only [List.take_left, List.drop_left] at this
          exact this
      · cases h
theorem app_map {T U V : Type} (h : T → U) (c : U → Option V) : ∀ (ts : List Tk) (g : Fn ts T) (vs : List Value), app ts g vs (fun g => c (h g)) = app ts (mapT h ts g) vs c := by
  intro ts
  induction ts with
  | nil => intro g vs; cases vs <;> rfl
  | cons t ts ih =>
    intro g vs
    cases t <;> simp only [app, mapT] <;> split <;> first | rfl | exact ih _ _ | exact congrArg (fun x => bif _ then x else none) (ih _ _)
abbrev XK (R : Type) := Xit → Env → Heap → Option R
section
variable {R : Type}
def kH (x : Xit) (s : List Nat) (ts : List Tk) (K : XK R) : Fn ts (Heap → Option R) := lam ts fun l H => K x (s.zip l) H
def kN (x : Xit) (s : List Nat) (ts : List Tk) (K : XK R) (H : Heap) : Fn ts (Option R) := lam ts fun l => K x (s.zip l) H
def kU (x : Xit) (K : XK R) (H : Heap) : Unit → Option R := fun _ => K x [] H
def rH (ts : List Tk) (K : Value → Heap → Option R) : Fn ts (Heap → Option R) := lam ts fun l H => K (tupled l) H
def rN (ts : List Tk) (K : Value → Heap → Option R) (H : Heap) : Fn ts (Option R) := lam ts fun l => K (tupled l) H
def rU (K : Value → Heap → Option R) (H : Heap) : Unit → Option R := fun _ => K undef H
structure PS where
  t : AT
  ls : List Nat
  ts : List Tk
  out : Out
def jp {T : Type} (s : PS) (post : T → Heap → XK R → Option R) (f : Fn s.ts T) (_ : Nat) (vals : List Value) (H : Heap) (K : XK R) : Option R := app s.ts f vals fun g => post g H K
def jl {T L : Type} (s : PS) (pre : L → Heap → XK R → Nat → Fn s.ts T) (post : T → Heap → Option R) (l : L) (n : Nat) (vals : List Value) (H : Heap) (K : XK R) : Option R := app s.ts (pre l H K n) vals fun g => post g H
def jf {T : Type} (m : Nat) (ts : List Tk) (post : T → Heap → (Value → Heap → Option R) → Option R) (f : Fn ts T) (args : List Value) (H : Heap) (K : Value → Heap → Option R) : Option R := bif Nat.beq args.length m then app ts f args fun g => post g H K else none
def jE (P : Program) (an : Ann) (nt : Nat) (C : Tab R) (J : JTab R) (s : PS) (c : Code) (H : Heap) (K : XK R) : Fn s.ts (Option R) :=
  lam s.ts fun vals => evJ C J ((trC P an nt s.t c).getD .skip) (s.ls.zip vals) H fun x e' H' => K x (clean e' (s.out.of x)) H'
def lE (P : Program) (an : Ann) (nt : Nat) (C : Tab R) (J : JTab R) (s : PS) (c : Code) (L : Nat → List Value → Heap → XK R → Option R) (n : Nat) (H : Heap) (K : XK R) : Fn s.ts (Option R) :=
  lam s.ts fun vals => evJ C J ((trC P an nt s.t c).getD .skip) (s.ls.zip vals) H fun x e' H' => match x with
    | .normal => L n ((clean e' s.ls).map (·.2)) H' K
    | x => K x (clean e' (s.out.of x)) H'
def fE (P : Program) (an : Ann) (C : Tab R) (J : JTab R) (t : AT) (fn : Func) (ts : List Tk) (H : Heap) (K : Value → Heap → Option R) : Fn ts (Option R) :=
  lam ts fun args => evF C J ((trF P an t fn).getD ⟨0, [], .skip⟩) args H K
/-- The pieces that a code names. -/
def opqL : AT → Code → List (Nat × List Nat × Out × Code)
  | .opq i ls out _, c => [(i, ls, out, c)]
  | .frz _ a, c => opqL a c
  | .seq a b, .seq x y => opqL a x ++ opqL b y
  | .cond a b, .cond _ x y => opqL a x ++ opqL b y
  | .node a, .block _ x => opqL a x
  | _, _ => []
def JAll (P : Program) (nt : Nat) (J : JTab R) : List (Nat × List Nat × Out × Code) → Prop
  | [] => True
  | (i, ls, out, c) :: l => JS P nt (J i) ls out c ∧ JAll P nt J l
theorem JAll.split {P : Program} {nt : Nat} {J : JTab R} : ∀ {a b : List (Nat × List Nat × Out × Code)}, JAll P nt J (a ++ b) → JAll P nt J a ∧ JAll P nt J b := by
  intro a b
  induction a with
  | nil => exact fun h => ⟨trivial, h⟩
  | cons x a ih => exact fun h => ⟨⟨h.1, (ih h.2).1⟩, (ih h.2).2⟩
theorem allj_of {P : Program} {nt : Nat} {J : JTab R} : ∀ (t : AT) (c : Code), JAll P nt J (opqL t c) → AllJ P nt J t c := by
  intro t
  induction t with
  | opq i ls out t ih => intro c h; exact h.1
  | frz i t ih => intro c h; exact ih c h
  | seq a b iha ihb => intro c h; cases c <;> first | trivial | exact ⟨iha _ h.split.1, ihb _ h.split.2⟩
  | cond a b iha ihb => intro c h; cases c <;> first | trivial | exact ⟨iha _ h.split.1, ihb _ h.split.2⟩
  | node a ih => intro c h; cases c <;> first | trivial | exact ih _ h
  | reg l b => intro c h; cases c <;> trivial
  | leaf => intro c h; cases c <;> trivial
variable {P : Program} {an : Ann} {nt : Nat} {C : Tab R}
theorem pj (hC : CSound P C) (J : JTab R) {s : PS} {c : Code} (h1 : (trC P an nt s.t c).isSome = true) {A : Prop} (ha : A) (hA : A = JAll P nt J (opqL s.t c)) {T : Type} {f : Fn s.ts T} {post : T → Heap → XK R → Option R} {n : Nat}
    (he : ∀ H K, jE P an nt C J s c H K = mapT (fun g => post g H K) s.ts f) : JS P nt (jp s post f n) s.ls s.out c :=
  piece_ok hC J (someD .skip h1) (allj_of _ _ (hA ▸ ha)) _ fun vals H K r h => by
    unfold jp at h
    have h2 := app_map (fun g => post g H K) (fun x => x) s.ts f vals
    rw [h2, ← he H K] at h
    exact app_lam (fun x => x) s.ts _ vals h
theorem lj (hC : CSound P C) (J : JTab R) {s : PS} {c : Code} (h1 : (trC P an nt s.t c).isSome = true) {A : Prop} (ha : A) (hA : A = JAll P nt J (opqL s.t c)) {T L : Type} {pre : L → Heap → XK R → Nat → Fn s.ts T} {post : T → Heap → Option R} {l : L}
    (h0 : ∀ H K, mapT (fun g => post g H) s.ts (pre l H K 0) = lam s.ts fun _ => none)
    (he : ∀ n H K, lE P an nt C J s c (jl s pre post l) n H K = mapT (fun g => post g H) s.ts (pre l H K (n + 1))) (k : Nat) : JS P nt (jl s pre post l k) s.ls s.out (.loop c) :=
  loop_ok hC J (someD .skip h1) (allj_of _ _ (hA ▸ ha)) (jl s pre post l) (fun vals H K => by
      cases hq : jl s pre post l 0 vals H K with
      | none => rfl
      | some r =>
        unfold jl at hq
        rw [app_map (fun g => post g H) (fun x => x) s.ts _ vals, h0] at hq
        cases app_lam (fun x => x) s.ts _ vals hq) (fun n vals H K r h => by
      unfold jl at h
      rw [app_map (fun g => post g H) (fun x => x) s.ts _ vals, ← he n H K] at h
      exact app_lam (fun x => x) s.ts _ vals h) k
theorem fj (hC : CSound P C) (J : JTab R) {t : AT} {f : Nat} {fn : Func} (hf : P.funcs[f]? = some fn) {m : Nat} {ts : List Tk} (h1 : ((trF P an t fn).isSome && fn.body.isSome && Nat.beq m (fn.params.size + fn.nfree)) = true) {A : Prop} (ha : A) (hA : A = JAll P fn.ntmps J (opqL t (fn.body.getD .skip)))
    {T : Type} {g : Fn ts T} {post : T → Heap → (Value → Heap → Option R) → Option R} (he : ∀ H K, fE P an C J t fn ts H K = mapT (fun g => post g H K) ts g) :
    ∀ args H K r, jf m ts post g args H K = some r → ∃ v H', Tri P f args H v H' ∧ K v H' = some r := by
  intro args H K r h
  simp only [Bool.and_eq_true] at h1
  unfold jf at h
  cases hb : Nat.beq args.length m with
  | false => rw [hb] at h; cases h
  | true =>
    rw [hb, cond_true, app_map (fun g => post g H K) (fun x => x) ts g args, ← he H K] at h
    exact evF_ok hC J hf (someD .skip h1.1.2) (someD _ h1.1.1) (allj_of _ _ (hA ▸ ha)) (by rw [Nat.eq_of_beq_eq_true hb, Nat.eq_of_beq_eq_true h1.2]) (app_lam (fun x => x) ts _ args h)
end
/-- A function without arguments that has been run stands for its answer. -/
theorem clq {P : Program} {R : Type} {f : Nat} (hT : ∀ H, Tri P f [] H (.bool true) H) : ∀ args H K r, jf 0 [] (fun (g : (Bool → Option R) → Option R) H K => g fun t => K (.bool t) H) (fun K => K true) args H K = some r → ∃ v H', Tri P f args H v H' ∧ K v H' = some r := by
  intro args H K r h
  cases args with
  | nil => exact ⟨_, _, hT H, h⟩
  | cons v vs => cases h
def bd (f : Func) : Code := f.body.getD .skip
abbrev Tk.n : Tk := .i .i64
def pH {R : Type} (g : Heap → Option R) (H : Heap) : Option R := g H
def pN {R : Type} (g : Option R) (_ : Heap) : Option R := g
/-- Forerunners, by signs. -/
def ms (l : List Nat) : List (List Nat) := l.map fun n => (List.range l.length).filter fun i => n.testBit i
end Go.Proofs.Ytjajknghcbpblaa.FW
