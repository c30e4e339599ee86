/- Code in resolved form: its translation, and what it stands for. -/
import Derived.Test.YtjajknghcbpblaaFwB
import Derived.LoopN
set_option linter.unusedVariables false
set_option linter.unusedSimpArgs false
namespace Go.Proofs.Ytjajknghcbpblaa.FW
variable {P : Program} {R : Type}
def EnvRel (ρ : Ren) (e : Env) (a : Act) (nt : Nat) : Prop := a.defers = [] ∧ nt ≤ a.tmps.size ∧ ∀ t, V0 ρ (eget e t) (a.tmps.getD t undef)
def XM : Xit → Exit → Prop
  | .normal, .normal => True
  | .exit i, .exit j => i = j
  | .ret, .ret => True
  | _, _ => False
/-- Where a piece of code ends: the exit, the frame, the heap. -/
def Post (nt : Nat) (ρ : Ren) (H : Heap) (w : World) (x : Xit) (e' : Env) (H' : Heap) : Exit → Act → World → Prop := fun ex a' w' =>
  XM x ex ∧ ∃ ρ', EnvRel ρ' e' a' nt ∧ Goes ρ (hblk H) w ρ' (hblk H') w' ∧ Grow ρ ρ' H.length H'.length
def TriC (P : Program) (nt : Nat) (c : Code) (e : Env) (H : Heap) (x : Xit) (e' : Env) (H' : Heap) : Prop :=
  H.length ≤ H'.length ∧ ∀ (ρ : Ren) (w : World) (a : Act), Rel ρ (hblk H) w → Dom ρ H.length → EnvRel ρ e a nt → c.wp P (Post nt ρ H w x e' H') a w
inductive AT where
  | leaf
  | reg (live : List Nat) (anc : List (List Nat))
  | seq (a b : AT)
  | cond (a b : AT)
  | node (a : AT)
  | opq (i : Nat) (ls : List Nat) (out : Out) (a : AT)
  | frz (t : Nat) (a : AT)
def memOp : Op → Bool
  | .load .. | .store .. | .alloc _ | .box .. | .buildSlice .. | .makeSlice .. => true
  | .call c => match c.callee with
    | .builtin .len | .builtin .cap | .builtin .min | .builtin .max => false
    | _ => true
  | _ => false
def createOp (an : Ann) : Op → Bool
  | .alloc _ | .box .. | .buildSlice .. | .makeSlice .. => true
  | .call c => match c.callee with
    | .builtin .append => true
    | .value (.func f) => an.fresh.elem f
    | _ => false
  | _ => false
/-- Whether of two operations the elder is bound to stand before the later. -/
def bound (bf : List (List Nat)) (i j : Nat) : Bool := (bf.getD j []).elem i
def cmpb (bf : List (List Nat)) (i j : Nat) : Bool := Nat.beq i j || bound bf i j || bound bf j i
def indexed {α : Type} : Nat → List α → List (Nat × α)
  | _, [] => []
  | n, x :: xs => (n, x) :: indexed (n + 1) xs
/-- Operations that write what was there, calls of functions that are named among them. -/
def wrOp (an : Ann) : Op → Bool
  | .store .. => true
  | .call c => match c.callee with
    | .builtin .copy | .builtin .clear => true
    | .value (.func f) => an.wr.elem f
    | _ => false
  | _ => false
/-- A load that is bound to no order against a write. -/
def ldrOf (an : Ann) (ops : List Oper) (bf : List (List Nat)) (i : Nat) : Bool := (match ops[i]? with | some o => (match o.op with | .load .. => true | _ => false) | none => false) && (indexed 0 ops).any fun x => wrOp an x.2.op && !(cmpb bf x.1 i)
def isLdr : IOp → Bool
  | .ldr .. => true
  | _ => false
def toLdr : IOp → IOp
  | .ld k x => .ldr k x
  | io => io
def barOf (an : Ann) (ops : List Oper) (bf : List (List Nat)) (j : Nat) : Bool := (indexed 0 ops).all fun x => !(memOp x.2.op) || cmpb bf x.1 j || ldrOf an ops bf x.1
def hideOf (an : Ann) (ops : List Oper) (bf : List (List Nat)) (j : Nat) : List Nat := ((indexed 0 ops).filter fun x => Nat.blt x.1 j && createOp an x.2.op && !(bound bf x.1 j)).map (·.1)
def dstOf (ops : List Oper) (j : Nat) : Option Nat := match ops[j]? with
  | some o => o.dst
  | none => none
def dstOk (nt : Nat) (d : Option Nat) : Bool := match d with
  | some d => Nat.blt d nt
  | none => true
def trO (P : Program) (an : Ann) (nt : Nat) (all : List Oper) (draw : Bool) (bf : List (List Nat)) (i : Nat) (o : Oper) : Option IOper :=
  match trOp P an (bif draw then barOf an all bf i else true) (bif draw then hideOf an all bf i else []) o.op o.type with
  | some io =>
    bif dstOk nt o.dst && !(isLdr io) then
      (match o.guard with
       | none => some ⟨o.dst, bif draw && ldrOf an all bf i then toLdr io else io, none⟩
       | some (j, want) => match dstOf all j with
         | some g => some ⟨o.dst, bif draw && ldrOf an all bf i then toLdr io else io, some (g, want)⟩
         | none => none)
    else none
  | none => none
def trOs (P : Program) (an : Ann) (nt : Nat) (all : List Oper) (draw : Bool) (bf : List (List Nat)) : Nat → List Oper → Option (List IOper)
  | _, [] => some []
  | i, o :: os => match trO P an nt all draw bf i o, trOs P an nt all draw bf (i + 1) os with
    | some x, some xs => some (x :: xs)
    | _, _ => none
def isMem : IOp → Bool
  | .ld .. | .alc _ | .box _ | .bls .. | .mks .. | .apn .. | .calf .. | .calp .. | .calq .. | .b2s _ => true
  | io => isBar io
/-- The temporaries that an operation names. -/
def namesOf (o : Oper) (io : IOper) : List Nat := (o.op.operands.toList.filterMap fun | .tmp t => some t | _ => none) ++ (match io.guard with | some (g, _) => [g] | none => [])
def confl (o : Oper) (io : IOper) (o' : Oper) (io' : IOper) : Bool :=
  (match io.dst with | some d => (namesOf o' io').elem d || (match io'.dst with | some d' => Nat.beq d d' | none => false) | none => false) ||
  (match io'.dst with | some d => (namesOf o io).elem d | none => false)
/-- A region whose order is drawn may be met in the text's order. -/
def drawOk (bf : List (List Nat)) (xs : List (Nat × Oper × IOper)) : Bool :=
  xs.all fun x => xs.all fun y => !(Nat.blt x.1 y.1) || bound bf x.1 y.1 ||
    !(confl x.2.1 x.2.2 y.2.1 y.2.2 || (isBar x.2.2.op && isMem y.2.2.op) || (isMem x.2.2.op && isBar y.2.2.op) ||
      (isCreator x.2.2.op && isCal y.2.2.op && !((hidOf y.2.2.op).elem x.1)))
/-- The list of forerunners tells the truth of the edges. -/
def ancOk (ops : List Oper) (bf : List (List Nat)) : Bool :=
  (indexed 0 ops).all fun x => (x.2.after.toList.all fun e => !(Region.binds .any e) || Nat.blt e.on x.1) && (bf.getD x.1 []).all fun i => x.2.after.toList.any fun e => Region.binds .any e && Nat.blt e.on x.1 && (Nat.beq e.on i || bound bf i e.on)
def trReg (P : Program) (an : Ann) (nt : Nat) (bf : List (List Nat)) (ops : Array Oper) (draw : Bool) : Option (List IOper) :=
  bif draw then
    (match trOs P an nt ops.toList true bf 0 ops.toList with
     | some ios => bif ancOk ops.toList bf && drawOk bf (indexed 0 (ops.toList.zip ios)) && P.follows .mixedOrders then some ios else none
     | none => none)
  else trOs P an nt ops.toList false [] 0 ops.toList
def trC (P : Program) (an : Ann) (nt : Nat) : AT → Code → Option IC
  | .opq i ls _ t, c => match trC P an nt t c with
    | some ic => some (.opq i ls ic)
    | none => none
  | .frz i t, c => match trC P an nt t c with
    | some ic => some (.frz i ic)
    | none => none
  | .reg live bf, .region _ ops draw => match trReg P an nt bf ops draw with
    | some ios => some (.reg ios live)
    | none => none
  | .leaf, .skip => some .skip
  | .leaf, .exit id => some (.exit id)
  | .leaf, .ret => some .ret
  | .seq a b, .seq x y => match trC P an nt a x, trC P an nt b y with
    | some x, some y => some (.seq x y)
    | _, _ => none
  | .cond a b, .cond z x y => match trX z, trC P an nt a x, trC P an nt b y with
    | some z, some x, some y => some (.cond z x y)
    | _, _, _ => none
  | .node a, .block id x => match trC P an nt a x with
    | some x => some (.block id x)
    | none => none
  | .node a, .loop x => match trC P an nt a x with
    | some x => some (.loop x)
    | none => none
  | _, _ => none
/-- A part of a code, by its way. -/
def sel : List Nat → Code → Code
  | [], c => c
  | i :: is, .seq a b => bif Nat.beq i 0 then sel is a else sel is b
  | i :: is, .cond _ a b => bif Nat.beq i 0 then sel is a else sel is b
  | _ :: is, .block _ b => sel is b
  | _ :: is, .loop b => sel is b
  | _, c => c
/-- A table with one more entry. -/
def tcons {α : Type} (i : Nat) (x : α) (t : Nat → α) : Nat → α := fun j => bif Nat.beq j i then x else t j
/-- A piece of code that stands for itself in a table tells the truth. -/
def JS (P : Program) (nt : Nat) (L : List Value → Heap → (Xit → Env → Heap → Option R) → Option R) (ls : List Nat) (out : Out) (c : Code) : Prop :=
  ∀ vals H K r, L vals H K = some r → ∃ x e' H', TriC P nt c (ls.zip vals) H x e' H' ∧ K x (clean e' (out.of x)) H' = some r
def AllJ (P : Program) (nt : Nat) (J : JTab R) : AT → Code → Prop
  | .opq i ls out _, c => JS P nt (J i) ls out c
  | .frz _ a, c => AllJ P nt J a c
  | .seq a b, .seq x y => AllJ P nt J a x ∧ AllJ P nt J b y
  | .cond a b, .cond _ x y => AllJ P nt J a x ∧ AllJ P nt J b y
  | .node a, .block _ x => AllJ P nt J a x
  | _, _ => True
theorem getD_lt {a : Array Value} {t : Nat} {v : Value} (h : a.getD t undef = v) (hv : v ≠ undef) : a[t]? = some v := by
  rw [Array.getD_eq_getD_getElem?] at h
  cases hq : a[t]? with
  | none => rw [hq] at h; exact (hv h.symm).elim
  | some x => rw [hq] at h; simp at h; rw [h]
theorem beqF {a b : Nat} (h : ¬ a = b) : Nat.beq a b = false := by
  cases hb : Nat.beq a b with
  | false => rfl
  | true => exact (h (Nat.eq_of_beq_eq_true hb)).elim
theorem EnvRel.put {ρ : Ren} {e : Env} {a : Act} {nt : Nat} (h : EnvRel ρ e a nt) {dst : Option Nat} (hd : dstOk nt dst = true) {v v' : Value} (hv : V0 ρ v v') : EnvRel ρ (eput dst v e) (a.put dst v') nt := by
  cases dst with
  | none => exact h
  | some d =>
    have hlt : d < nt := by simpa [dstOk, Nat.blt_eq] using hd
    refine ⟨h.1, by simpa [Act.put] using h.2.1, fun t => ?_⟩
    simp only [eput, eget, Act.put]
    by_cases c : d = t
    · subst c
      have : d < a.tmps.size := by have := h.2.1; omega
      simp [this]
      exact hv
    · have hb : Nat.beq d t = false := beqF c
      rw [hb, cond_false]
      have : (a.tmps.setIfInBounds d v').getD t undef = a.tmps.getD t undef := by
        simp [Array.getElem?_setIfInBounds_ne c]
      rw [this]
      exact h.2.2 t
theorem EnvRel.mono {ρ ρ' : Ren} {e : Env} {a : Act} {nt : Nat} (h : EnvRel ρ e a nt) (k : Le ρ ρ') : EnvRel ρ' e a nt := ⟨h.1, h.2.1, fun t => (h.2.2 t).mono k⟩
theorem EnvRel.reads {ρ : Ren} {e : Env} {a : Act} {nt : Nat} (h : EnvRel ρ e a nt) (o : Oper) : Reads ρ e a o := fun _ _ t _ => h.2.2 t
theorem EnvRel.alias {ρ : Ren} {e : Env} {a : Act} {nt : Nat} (h : EnvRel ρ e a nt) {g : Nat} {v : Value} (hg : V0 ρ v (a.tmps.getD g undef)) : EnvRel ρ ((g, v) :: e) a nt := by
  refine ⟨h.1, h.2.1, fun t => ?_⟩
  simp only [eget]
  by_cases c : g = t
  · subst c
    have : Nat.beq g g = true := Nat.beq_refl g
    rw [this, cond_true]; exact hg
  · have hb : Nat.beq g t = false := beqF c
    rw [hb, cond_false]; exact h.2.2 t
theorem eget_clean (e : Env) (ls : List Nat) (t : Nat) : eget (clean e ls) t = if t ∈ ls then eget e t else undef := by
  induction ls with
  | nil => simp [clean, eget]
  | cons x ls ih =>
    simp only [clean, eget]
    by_cases c : x = t
    · subst c; simp
    · have hb : Nat.beq x t = false := beqF c
      rw [hb, cond_false, ih]
      have : (t ∈ x :: ls) ↔ t ∈ ls := by simp [Ne.symm c]
      simp [this]
theorem EnvRel.clean {ρ : Ren} {e : Env} {a : Act} {nt : Nat} (h : EnvRel ρ e a nt) (ls : List Nat) : EnvRel ρ (clean e ls) a nt := by
  refine ⟨h.1, h.2.1, fun t => ?_⟩
  rw [eget_clean]
  split
  · exact h.2.2 t
  · exact .inl rfl
theorem clean_zip (e : Env) (ls : List Nat) : ls.zip ((FW.clean e ls).map (·.2)) = FW.clean e ls := by
  induction ls with
  | nil => rfl
  | cons x ls ih => simp [FW.clean, ih]
/-- What a guard's temporary holds decides the operation. -/
theorem guard_bool {ρ : Ren} {e : Env} {a : Act} {nt : Nat} (h : EnvRel ρ e a nt) {ops : Array Oper} {j g : Nat} (hj : dstOf ops.toList j = some g) {t : Bool} (ht : eget e g = .bool t) : yielded ops a.tmps j = some t := by
  have hd : (ops[j]?).bind (·.dst) = some g := by
    unfold dstOf at hj
    rw [Array.getElem?_toList] at hj
    cases hq : ops[j]? with
    | none => rw [hq] at hj; cases hj
    | some o => rw [hq] at hj; simpa using hj
  have h1 := h.2.2 g
  rw [ht] at h1
  have h2 := getD_lt h1.bool (by simp [undef])
  unfold yielded
  rw [hd]
  simp [h2]
theorem guard_skip {ρ : Ren} {e : Env} {a : Act} {nt : Nat} (h : EnvRel ρ e a nt) {ops : Array Oper} {j g : Nat} (hj : dstOf ops.toList j = some g) {cs : Array Value} (ht : eget e g = .tuple cs) (hc : Nat.beq cs.toList.length 1 = true) : yielded ops a.tmps j = none := by
  have hd : (ops[j]?).bind (·.dst) = some g := by
    unfold dstOf at hj
    rw [Array.getElem?_toList] at hj
    cases hq : ops[j]? with
    | none => rw [hq] at hj; cases hj
    | some o => rw [hq] at hj; simpa using hj
  have h1 := h.2.2 g
  rw [ht] at h1
  have hnb : ∀ b, a.tmps.getD g undef ≠ .bool b := by
    intro b hb
    rcases h1 with q | q | q
    · have : cs = #[] := by simpa [undef] using q
      subst this; simp at hc
    · rw [q.2] at hb; simp [undef] at hb
    · rw [hb] at q; cases q
  unfold yielded
  rw [hd]
  simp only [Option.bind_some]
  cases hq : a.tmps[g]? with
  | none => rfl
  | some v =>
    have : a.tmps.getD g undef = v := by simp [hq]
    cases v <;> first | rfl | exact (hnb _ this).elim
section
variable {C : Tab R} {an : Ann} {nt : Nat}
/-- A step's operation, from the frame's relation on. -/
theorem seq_step {o : Oper} {io : IOp} {e : Env} {H : Heap} {made : List (Nat × Nat × Nat)} {K : Value → Heap → Option R} {r : R} (h : SeqOK P o e H K r) (hd : dstOk nt o.dst = true) :
    ∃ v H', K v H' = some r ∧ H.length ≤ H'.length ∧ ∀ (ρ : Ren) (w : World) (a : Act) (Q : Exit → Act → World → Prop), Rel ρ (hblk H) w → Dom ρ H.length → EnvRel ρ e a nt →
      o.wp P a w (fun a' w' => ∃ ρ', EnvRel ρ' (eput o.dst v e) a' nt ∧ Goes ρ (hblk H) w ρ' (hblk H') w' ∧ Grow ρ ρ' H.length H'.length) Q := by
  obtain ⟨v, H', h1, h2, h3⟩ := h
  refine ⟨v, H', h1, h2, fun ρ w a Q hR hD hE => Oper.wp_mono ?_ (h3 ρ w a Q hR hD (hE.reads o))⟩
  rintro a' w' ⟨ρ', v', rfl, q2, q3, q4⟩
  exact ⟨ρ', (hE.mono q3.le).put hd q2, q3, q4⟩
/-- What a list of operations comes to, one after the other. -/
def OpsTri (P : Program) (nt : Nat) (ops : Array Oper) (rest : List Nat) (e : Env) (H : Heap) (e' : Env) (H' : Heap) : Prop :=
  H.length ≤ H'.length ∧ ∀ (ρ : Ren) (w : World) (a : Act) (Q : Exit → Act → World → Prop), Rel ρ (hblk H) w → Dom ρ H.length → EnvRel ρ e a nt →
    (∀ ρ' a' w', EnvRel ρ' e' a' nt → Goes ρ (hblk H) w ρ' (hblk H') w' → Grow ρ ρ' H.length H'.length → Q .normal a' w') → wpOps P ops Q rest a w
theorem evO_of {C : Tab R} {H0 : Heap} {made : List (Nat × Nat × Nat)} {io : IOp} {e : Env} {H : Heap} {K : Value → Heap → Option R} (h : isLdr io = false) : evO C H0 made io e H K = evOp C made io e H K := by
  cases io <;> first | rfl | (simp [isLdr] at h)
theorem evOps_ok (hC : CSound P C) (ops : Array Oper) (H0 : Heap) : ∀ (os : List Oper) (ios : List IOper) (i : Nat), ops.toList.drop i = os → trOs P an nt ops.toList false [] i os = some ios →
    ∀ (made : List (Nat × Nat × Nat)) (e : Env) (H : Heap) (K : Env → Heap → Option R) (r : R), evOps C H0 ios i made e H K = some r → ∃ e' H', OpsTri P nt ops (List.range' i os.length) e H e' H' ∧ K e' H' = some r := by
  intro os
  induction os with
  | nil =>
    intro ios i _ htr made e H K r h
    simp [trOs] at htr
    subst htr
    exact ⟨e, H, ⟨Nat.le_refl _, fun ρ w a Q hR hD hE hQ => by simpa [wpOps] using hQ ρ a w hE (.refl hR) (.refl _ _ _)⟩, h⟩
  | cons o os ih =>
    intro ios i hdrop htr made e H K r h
    simp only [trOs] at htr
    split at htr
    · rename_i io ios' h1 h2
      cases htr
      have hi : ops[i]? = some o := by
        have : ops.toList[i]? = some o := by
          have := congrArg List.head? hdrop
          rw [List.head?_drop] at this
          simpa using this
        simpa using this
      have hdrop' : ops.toList.drop (i + 1) = os := by
        have := congrArg List.tail hdrop
        simpa using this
      unfold trO at h1
      split at h1
      · rename_i op hop
        cases hdl : dstOk nt o.dst && !(isLdr op) with
        | false => rw [hdl] at h1; cases h1
        | true =>
          rw [hdl, cond_true] at h1
          simp only [Bool.false_and, cond_false] at h1
          rw [Bool.and_eq_true, Bool.not_eq_true'] at hdl
          obtain ⟨hd, hldr⟩ := hdl
          have hrange : List.range' i (o :: os).length = i :: List.range' (i + 1) os.length := by simp [List.range'_succ]
          have exec : ∀ (e2 : Env) (K2 : Value → Heap → Option R), evO C H0 made op e2 H K2 = some r → (∀ v H1, K2 v H1 = some r → ∃ e' H', OpsTri P nt ops (List.range' (i + 1) os.length) (eput o.dst v e2) H1 e' H' ∧ K e' H' = some r) →
              (∀ ρ a, EnvRel ρ e a nt → EnvRel ρ e2 a nt ∧ Region.wanted o (yielded ops a.tmps) = true) → ∃ e' H', OpsTri P nt ops (List.range' i (o :: os).length) e H e' H' ∧ K e' H' = some r := by
            intro e2 K2 hev hnext henv
            rw [evO_of hldr] at hev
            have hs := (trOp_ok (made := made) hC hop hev).seq
            obtain ⟨v, H1, hk, hlen, hstep⟩ := seq_step (nt := nt) (io := op) (made := made) hs hd
            obtain ⟨e', H', ⟨hl2, ht⟩, hk2⟩ := hnext v H1 hk
            refine ⟨e', H', ⟨Nat.le_trans hlen hl2, fun ρ w a Q hR hD hE hQ => ?_⟩, hk2⟩
            rw [hrange, wpOps]
            simp only [hi]
            obtain ⟨hE2, hw⟩ := henv ρ a hE
            rw [if_pos hw]
            refine .inl (Oper.wp_mono ?_ (hstep ρ w a Q hR hD hE2))
            rintro a' w' ⟨ρ', q1, q2, q3⟩
            exact ht ρ' w' a' Q q2.rel (q3.dom hlen hD) q1 (fun ρ'' a'' w'' g1 g2 g3 => hQ ρ'' a'' w'' g1 (q2.trans g2) (q3.trans g3 hlen hl2))
          have skip : ∀ (e2 : Env) , evOps C H0 ios' (i + 1) made (eput o.dst skp e2) H K = some r → (∀ ρ a, EnvRel ρ e a nt → EnvRel ρ e2 a nt ∧ Region.wanted o (yielded ops a.tmps) = false) → ∃ e' H', OpsTri P nt ops (List.range' i (o :: os).length) e H e' H' ∧ K e' H' = some r := by
            intro e2 hev henv
            obtain ⟨e', H', ⟨hl2, ht⟩, hk2⟩ := ih ios' (i + 1) hdrop' h2 made _ H K r hev
            refine ⟨e', H', ⟨hl2, fun ρ w a Q hR hD hE hQ => ?_⟩, hk2⟩
            rw [hrange, wpOps]
            simp only [hi]
            obtain ⟨hE2, hw⟩ := henv ρ a hE
            rw [if_neg (by rw [hw]; simp)]
            exact ht ρ w _ Q hR hD (hE2.put hd (.inr (.inl ⟨rfl, rfl⟩))) hQ
          cases hg : o.guard with
          | none =>
            rw [hg] at h1
            cases h1
            simp only [evOps] at h
            refine exec e _ h (fun v H1 hv => ih ios' (i + 1) hdrop' h2 _ _ H1 K r hv) (fun ρ a hE => ⟨hE, by simp [Region.wanted, hg]⟩)
          | some gw =>
            obtain ⟨j, want⟩ := gw
            rw [hg] at h1
            simp only at h1
            split at h1
            · rename_i g hgd
              cases h1
              simp only [evOps] at h
              split at h
              · rename_i t ht
                have henv : ∀ ρ a, EnvRel ρ e a nt → EnvRel ρ ((g, .bool t) :: e) a nt ∧ Region.wanted o (yielded ops a.tmps) = (t == want) := fun ρ a hE => by
                  refine ⟨hE.alias (by have := hE.2.2 g; rwa [ht] at this), ?_⟩
                  simp only [Region.wanted, hg, guard_bool hE hgd ht]
                  cases t <;> cases want <;> rfl
                cases t with
                | true =>
                  rw [cond_true] at h
                  cases want with
                  | true => rw [cond_true] at h; exact exec _ _ h (fun v H1 hv => ih ios' (i + 1) hdrop' h2 _ _ H1 K r hv) (fun ρ a hE => henv ρ a hE)
                  | false => rw [cond_false] at h; exact skip _ h (fun ρ a hE => henv ρ a hE)
                | false =>
                  rw [cond_false] at h
                  cases want with
                  | true => rw [cond_true] at h; exact skip _ h (fun ρ a hE => henv ρ a hE)
                  | false => rw [cond_false] at h; exact exec _ _ h (fun v H1 hv => ih ios' (i + 1) hdrop' h2 _ _ H1 K r hv) (fun ρ a hE => henv ρ a hE)
              · rename_i cs ht
                cases hc : Nat.beq cs.toList.length 1 with
                | false => rw [hc] at h; cases h
                | true =>
                  rw [hc, cond_true] at h
                  exact skip e h (fun ρ a hE => ⟨hE, by simp [Region.wanted, hg, guard_skip hE hgd ht hc]⟩)
              · cases h
            · cases h1
      · cases h1
    · cases htr
end
end Go.Proofs.Ytjajknghcbpblaa.FW
