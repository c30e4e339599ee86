/- Each operation of the own machine stands for the model's: those that make or read memory, but write none. -/
import Derived.Test.YtjajknghcbpblaaFw2
import Derived.Laws.Alloc2
import Derived.Laws.StructEq
import Derived.Laws.Cover3
import Derived.Laws.Pointers
import Derived.Laws.Rows
set_option linter.unusedVariables false
set_option linter.unusedSimpArgs false
namespace Go.Proofs.Ytjajknghcbpblaa.FW
variable {P : Program} {R : Type}
def hpu (hp : Nat → Option Blk) (n : Nat) (nb : Heap) : Nat → Option Blk := fun b => if n ≤ b ∧ b < n + nb.length then hblk nb (b - n) else hp b
theorem hpu_nil (hp : Nat → Option Blk) (n : Nat) : hpu hp n [] = hp := by
  funext b; unfold hpu; rw [if_neg (by simp)]
/-- The new names of a step. -/
def Grow (ρ ρ' : Ren) (n n' : Nat) : Prop := ∀ b, ρ' b ≠ none → ρ b ≠ none ∨ (n ≤ b ∧ b < n')
theorem Grow.dom {ρ ρ' : Ren} {n n' : Nat} (h : Grow ρ ρ' n n') (hn : n ≤ n') (d : Dom ρ n) : Dom ρ' n' := by
  intro b hb
  cases hq : ρ' b with
  | none => rfl
  | some x =>
    rcases h b (by rw [hq]; simp) with h | h
    · exact (h (d b (by omega))).elim
    · omega
theorem Grow.trans {ρ1 ρ2 ρ3 : Ren} {n1 n2 n3 : Nat} (h : Grow ρ1 ρ2 n1 n2) (k : Grow ρ2 ρ3 n2 n3) (h1 : n1 ≤ n2) (h2 : n2 ≤ n3) : Grow ρ1 ρ3 n1 n3 := by
  intro b hb
  rcases k b hb with q | q
  · rcases h b q with g | g
    · exact .inl g
    · exact .inr (by omega)
  · exact .inr (by omega)
theorem Grow.refl (ρ : Ren) (n n' : Nat) : Grow ρ ρ n n' := fun _ h => .inl h
def LP (o : Oper) (a : Act) (ρ : Ren) (hp : Nat → Option Blk) (w : World) (n : Nat) (v : Value) (nb : Heap) : Act → World → Prop := fun a' w' =>
  ∃ ρ' v', a' = a.put o.dst v' ∧ V0 ρ' v v' ∧ Goes ρ hp w ρ' (hpu hp n nb) w' ∧ ∀ b, ρ' b ≠ none → ρ b ≠ none ∨ (n ≤ b ∧ b < n + nb.length)
def Agree (ρ : Ren) (hp : Nat → Option Blk) (H : Heap) : Prop := ∀ b, b < H.length → ρ b ≠ none → hp b = hblk H b
def Reads (ρ : Ren) (e : Env) (a : Act) (o : Oper) : Prop := ∀ x ∈ o.op.operands, ∀ t, x = .tmp t → V0 ρ (eget e t) (a.tmps.getD t undef)
def LocalOK (P : Program) (o : Oper) (e : Env) (H : Heap) (K : Value → Heap → Option R) (r : R) (cr : Bool) : Prop :=
  ∃ v nb, K v (H ++ nb) = some r ∧ (cr = false → nb = []) ∧ ∀ (ρ : Ren) (hp : Nat → Option Blk) (w : World) (a : Act) (Q : Exit → Act → World → Prop),
    Rel ρ hp w → Agree ρ hp H → (∀ b, H.length ≤ b → b < H.length + nb.length → ρ b = none) → Reads ρ e a o → o.wp P a w (LP o a ρ hp w H.length v nb) Q
theorem wp_of_run {o : Oper} {a : Act} {w : World} {next : Act → World → Prop} {Q : Exit → Act → World → Prop} {v' : Value} {w' : World}
    (h : (execOp a.eval o).run P w = .ok (.value v') w') (hn : next (a.put o.dst v') w') : o.wp P a w next Q := by
  unfold Oper.wp; rw [h]; exact hn
theorem pure_ok {o : Oper} {e : Env} {H : Heap} {K : Value → Heap → Option R} {r : R} {cr : Bool} (v : Value) (hK : K v H = some r)
    (h : ∀ (ρ : Ren) (hp : Nat → Option Blk) (w : World) (a : Act), Rel ρ hp w → Agree ρ hp H → Reads ρ e a o → ∃ v', V0 ρ v v' ∧ (execOp a.eval o).run P w = .ok (.value v') w) : LocalOK P o e H K r cr := by
  refine ⟨v, [], by simpa using hK, fun _ => rfl, fun ρ hp w a Q hr ha _ hx => ?_⟩
  obtain ⟨v', h1, h2⟩ := h ρ hp w a hr ha hx
  exact wp_of_run h2 ⟨ρ, v', rfl, h1, by rw [hpu_nil]; exact .refl hr, fun b hb => .inl hb⟩
theorem new_goes {ρ : Ren} {hp : Nat → Option Blk} {w w1 : World} {n m bz : Nat} {cells : List Value} {arr : Array Value} {el : TypeId} (hr : Rel ρ hp w) (hn : ρ n = none)
    (hc : ∀ (i : Nat) x, cells[i]? = some x → ∃ y, arr[i]? = some y ∧ VRel ρ x y) (hm : m * bz ≤ arr.size) (hone : cells.all oneC = true) (hw : w1.heap = w.heap.push (.cells arr el)) (ho : w1.os = w.os) (htp : w1.tape = w.tape) (hou : w1.output = w.output) :
    Goes ρ hp w (fun b => if b = n then some (w.heap.size, 0, m) else ρ b) (hpu hp n [some ⟨cells, false, bz⟩]) w1 := by
  have hle : Le ρ (fun b => if b = n then some (w.heap.size, 0, m) else ρ b) := by
    intro b x hb
    show (if b = n then _ else _) = _
    rw [if_neg (by rintro rfl; rw [hn] at hb; cases hb)]; exact hb
  have hlt : ∀ b B, hp b = some B → ∀ x d, At ρ b x d → x < w.heap.size := by
    intro b B hb x d hx
    obtain ⟨b', d', m', arr, el, fr, e, hw', _⟩ := hr.blk b B hb
    obtain ⟨m2, hx⟩ := hx
    rw [hx] at e; cases e
    exact (Array.getElem?_eq_some_iff.1 hw').1
  have hnew : ∀ b, hpu hp n [some ⟨cells, false, bz⟩] b = if b = n then some ⟨cells, false, bz⟩ else hp b := by
    intro b
    unfold hpu
    by_cases e : b = n
    · subst e; simp [hblk]
    · rw [if_neg e, if_neg (by simp; omega)]
  have hat : ∀ b x d, At (fun b => if b = n then some (w.heap.size, 0, m) else ρ b) b x d → (b = n ∧ x = w.heap.size) ∨ (b ≠ n ∧ At ρ b x d) := by
    rintro b x d ⟨m', h⟩
    by_cases c : b = n
    · simp only [c, if_true] at h; cases h; exact .inl ⟨c, rfl⟩
    · simp only [c, if_false] at h; exact .inr ⟨c, m', h⟩
  refine ⟨hle, ⟨fun b B hb => ?_, fun b1 B1 b2 B2 x1 d1 x2 d2 k1 k2 hne hro e1 e2 => ?_⟩, ⟨ho, htp, hou, by rw [hw]; simp, fun c hc' _ => ?_⟩, fun b B x d hb hx => ?_⟩
  · rw [hnew] at hb
    by_cases e : b = n
    · rw [if_pos e] at hb; cases hb
      refine ⟨w.heap.size, 0, m, arr, el, (0, 0), by simp [e], by rw [hw]; simp, fun i v hv => ?_, fun _ => ⟨rfl, rfl, hm⟩, hone⟩
      obtain ⟨y, h1, h2⟩ := hc i v hv
      exact ⟨y, by simpa using h1, h2.mono hle⟩
    · rw [if_neg e] at hb
      obtain ⟨b', d, m', arr', el', fr, e1, hw', h3, h4⟩ := hr.blk b B hb
      refine ⟨b', d, m', arr', el', fr, hle _ _ e1, ?_, fun i v hv => ?_, h4⟩
      · rw [hw, Array.getElem?_push, if_neg (by have := (Array.getElem?_eq_some_iff.1 hw').1; omega)]; exact hw'
      · obtain ⟨y, h5, h6⟩ := h3 i v hv
        exact ⟨y, h5, h6.mono hle⟩
  · rw [hnew] at k1 k2
    rcases hat _ _ _ e1 with ⟨c1, rfl⟩ | ⟨c1, e1⟩
    · rcases hat _ _ _ e2 with ⟨c2, _⟩ | ⟨c2, e2⟩
      · exact (hne (c1.trans c2.symm)).elim
      · rw [if_neg c2] at k2
        have := hlt b2 B2 k2 _ _ e2
        omega
    · rw [if_neg c1] at k1
      rcases hat _ _ _ e2 with ⟨c2, rfl⟩ | ⟨c2, e2⟩
      · have := hlt b1 B1 k1 _ _ e1
        omega
      · rw [if_neg c2] at k2
        exact hr.inj b1 B1 b2 B2 x1 d1 x2 d2 k1 k2 hne hro e1 e2
  · rw [hw, Array.getElem?_push, if_neg (by omega)]
  · rw [hnew] at hb
    rcases hat _ _ _ hx with ⟨c1, rfl⟩ | ⟨c1, hx⟩
    · exact .inl (Nat.le_refl _)
    · rw [if_neg c1] at hb; exact .inr (.inl ⟨B, hb, hx, id⟩)
theorem new_ok {o : Oper} {e : Env} {H : Heap} {K : Value → Heap → Option R} {r : R} (v : Value) (cells : List Value) (bz : Nat) (hone : ∀ (ρ : Ren) (hp : Nat → Option Blk) (w : World), Rel ρ hp w → Agree ρ hp H → (∃ a, Reads ρ e a o) → cells.all oneC = true) (hK : K v (H ++ [some ⟨cells, false, bz⟩]) = some r)
    (h : ∀ (ρ : Ren) (hp : Nat → Option Blk) (w : World) (a : Act), Rel ρ hp w → Agree ρ hp H → Reads ρ e a o → ∃ (arr : Array Value) (el : TypeId) (v' : Value) (w1 : World) (m : Nat),
      (∀ (i : Nat) x, cells[i]? = some x → ∃ y, arr[i]? = some y ∧ VRel ρ x y) ∧ m * bz ≤ arr.size ∧ (∀ ρ' : Ren, ρ' H.length = some (w.heap.size, 0, m) → V0 ρ' v v') ∧
      (execOp a.eval o).run P w = .ok (.value v') w1 ∧ w1.heap = w.heap.push (.cells arr el) ∧ w1.os = w.os ∧ w1.tape = w.tape ∧ w1.output = w.output) : LocalOK P o e H K r true := by
  refine ⟨v, [some ⟨cells, false, bz⟩], hK, (fun h => by cases h), fun ρ hp w a Q hr ha hfree hx => ?_⟩
  obtain ⟨arr, el, v', w1, m, h1, hm, h2, h3, h4, h5, h6, h7⟩ := h ρ hp w a hr ha hx
  have hn : ρ H.length = none := hfree _ (Nat.le_refl _) (by simp)
  refine wp_of_run h3 ⟨_, v', rfl, h2 _ (by simp), new_goes hr hn h1 hm (hone ρ hp w hr ha ⟨a, hx⟩) h4 h5 h6 h7, fun b hb => ?_⟩
  by_cases c : b = H.length
  · exact .inr (by simp; omega)
  · simp only [c, if_false] at hb; exact .inl hb
/-- Of what the operation's operands hold. -/
theorem VRel.self {v : Value} (h : ptrFree v = true) (hk : okv v = true) (ρ : Ren) : VRel ρ v v := by
  have hC : ∀ u, ptrFreeC u = true → VRel ρ u u := by
    intro u hu
    cases u with
    | bool b => exact .bool b
    | int k n => exact .int k n
    | float k b => exact .flt k b
    | string s => exact .str s
    | pointer p => cases p with
      | none => exact .nilp
      | some p => simp [ptrFreeC] at hu
    | slice p l c => cases p with
      | none => exact .nils l c
      | some p => simp [ptrFreeC] at hu
    | nilFunc => exact .nilf
    | nilIface => exact .nili
    | _ => simp [ptrFreeC] at hu
  cases v with
  | agg cs =>
    refine .agg rfl fun i x y a b => ?_
    rw [a] at b; cases b
    exact hC x (List.all_eq_true.1 h x (List.mem_of_getElem? a))
  | tuple cs => simp [okv] at hk
  | _ => exact hC _ h
theorem vx {ρ : Ren} {e : Env} {a : Act} {o : Oper} (h : Reads ρ e a o) {x : Operand} {x' : X} (ht : trX x = some x') (hm : x ∈ o.op.operands) : V0 ρ (gx e x') (a.eval x) := by
  cases x with
  | tmp t => simp [trX] at ht; subst ht; exact h _ hm t rfl
  | const v =>
    simp only [trX] at ht
    cases hv : ptrFree v && okv v with
    | false => rw [hv] at ht; simp at ht
    | true =>
      rw [hv] at ht; simp at ht; subst ht
      simp at hv
      exact .of (VRel.self hv.1 hv.2 ρ)
  | func f =>
    simp [trX] at ht; subst ht
    exact .of (.func _ rfl (fun i x y q => by simp at q) rfl (fun i x y q => by simp at q))
  | global g => simp [trX] at ht
section pure
variable {o : Oper} {e : Env} {H : Heap} {K : Value → Heap → Option R} {r : R} {cr : Bool} {C : Tab R} {made : List (Nat × Nat × Nat)}
theorem ok_mov {x : Operand} {x' : X} (ho : o.op = .move x ∨ o.op = .assign x) (hx : trX x = some x') (hr : evOp C made (.mov x') e H K = some r) : LocalOK P o e H K r cr := by
  refine pure_ok (gx e x') hr fun ρ hp w a _ _ hE => ⟨a.eval x, vx hE hx (by rcases ho with ho | ho <;> simp [ho, Op.operands]), ?_⟩
  rcases ho with ho | ho <;> simp [execOp, ho]
theorem ok_pick {c x y : Operand} {c' x' y' : X} (ho : o.op = .pick c x y) (hc : trX c = some c') (hx : trX x = some x') (hy : trX y = some y') (hr : evOp C made (.pick c' x' y') e H K = some r) : LocalOK P o e H K r cr := by
  simp only [evOp] at hr
  split at hr
  · rename_i t ht
    cases t with
    | true =>
      refine pure_ok (gx e x') hr fun ρ hp w a _ _ hE => ⟨a.eval x, vx hE hx (by simp [ho, Op.operands]), ?_⟩
      have h1 := vx hE hc (by simp [ho, Op.operands])
      rw [ht] at h1
      simp [execOp, ho, h1.bool, asBool]
    | false =>
      refine pure_ok (gx e y') hr fun ρ hp w a _ _ hE => ⟨a.eval y, vx hE hy (by simp [ho, Op.operands]), ?_⟩
      have h1 := vx hE hc (by simp [ho, Op.operands])
      rw [ht] at h1
      simp [execOp, ho, h1.bool, asBool]
  · cases hr
theorem ikeq_eq {k k' : IntKind} (h : ikeq k k' = true) : k = k' := by cases k <;> cases k' <;> first | rfl | cases h
theorem eqGuard_int (op : BinOp) (t : TypeId) (x y : Operand) (k k' : IntKind) (a b : Int) (w : World) : (eqGuard op t x y (.int k a) (.int k' b)).run P w = .ok () w := by
  cases op <;> simp [eqGuard]
theorem eqGuard_bool (op : BinOp) (t : TypeId) (x y : Operand) (a b : Bool) (w : World) : (eqGuard op t x y (.bool a) (.bool b)).run P w = .ok () w := by
  cases op <;> simp [eqGuard]
theorem eqGuard_ptr (op : BinOp) (t : TypeId) (x y : Operand) (a b : Option Addr) (w : World) : (eqGuard op t x y (.pointer a) (.pointer b)).run P w = .ok () w := by
  cases op <;> simp [eqGuard]
theorem eqGuard_slc (op : BinOp) (t : TypeId) (x y : Operand) (a b : Option Addr) (l c l' c' : Nat) (w : World) : (eqGuard op t x y (.slice a l c) (.slice b l' c')).run P w = .ok () w := by
  cases op <;> simp [eqGuard]
theorem hbin_run {op : BinOp} {k : IntKind} {a b : Int} {K' : Int → Option R} (t : TypeId) (k2 : IntKind) (hk : (isShift op || (isArith op && ikeq k k2)) = true) (h : hbin op k a b K' = some r) :
    ∃ n, K' n = some r ∧ ∀ w, (binOp op t (.int k a) (.int k2 b)).run P w = .ok (.int k n) w := by
  cases op <;> simp [isShift, isArith] at hk <;> (try (have e := ikeq_eq hk; subst e)) <;> simp only [hbin] at h
  case add => exact ⟨_, h, fun w => by simp [binOp, Op.intArith]⟩
  case sub => exact ⟨_, h, fun w => by simp [binOp, Op.intArith]⟩
  case mul => exact ⟨_, h, fun w => by simp [binOp, Op.intArith]⟩
  case quo =>
    split at h
    · cases h
    · rename_i hb; exact ⟨_, h, fun w => by simp [binOp, Op.intDiv, hb]⟩
  case rem =>
    split at h
    · cases h
    · rename_i hb; exact ⟨_, h, fun w => by simp [binOp, Op.intDiv, hb]⟩
  case and => exact ⟨_, h, fun w => by simp [binOp, Op.intBits]⟩
  case or => exact ⟨_, h, fun w => by simp [binOp, Op.intBits]⟩
  case xor => exact ⟨_, h, fun w => by simp [binOp, Op.intBits]⟩
  case andNot => exact ⟨_, h, fun w => by simp [binOp, Op.intBits]⟩
  case shl =>
    split at h
    · cases h
    · rename_i hb; exact ⟨_, h, fun w => by simp [binOp, Op.shift, hb]⟩
  case shr =>
    split at h
    · cases h
    · rename_i hb; exact ⟨_, h, fun w => by simp [binOp, Op.shift, hb]⟩
theorem ok_bin {op : BinOp} {t t' : TypeId} {k : IntKind} {x y : Operand} {x' y' : X} (ho : o.op = .binOp op t x y t') (hx : trX x = some x') (hy : trX y = some y') (hr : evOp C made (.bin op k x' y') e H K = some r) : LocalOK P o e H K r cr := by
  simp only [evOp] at hr
  split at hr
  · rename_i k1 a1 k2 a2 e1 e2
    cases hc : ikeq k k1 && (isShift op || (isArith op && ikeq k k2)) with
    | false => rw [hc] at hr; cases hr
    | true =>
      rw [hc, cond_true] at hr
      rw [Bool.and_eq_true] at hc
      have ek := ikeq_eq hc.1; subst ek
      obtain ⟨n, h1, h2⟩ := hbin_run (P := P) t k2 hc.2 hr
      refine pure_ok (.int k n) h1 fun ρ hp w a _ _ hE => ⟨.int k n, .of (.int _ _), ?_⟩
      have q1 := vx hE hx (by simp [ho, Op.operands])
      have q2 := vx hE hy (by simp [ho, Op.operands])
      rw [e1] at q1; rw [e2] at q2
      simp [execOp, ho, q1.int, q2.int, eqGuard_int, h2]
  · cases hr
theorem ok_cmp {op : BinOp} {t t' : TypeId} {x y : Operand} {x' y' : X} {k : IntKind} (hu : P.underlying t = some (.int k)) (ho : o.op = .binOp op t x y t') (hx : trX x = some x') (hy : trX y = some y') (hr : evOp C made (.cmp op x' y') e H K = some r) : LocalOK P o e H K r cr := by
  simp only [evOp] at hr
  split at hr
  · rename_i k1 a1 k2 a2 e1 e2
    cases hc : ikeq k1 k2 && isCmp op with
    | false => rw [hc] at hr; cases hr
    | true =>
      rw [hc, cond_true] at hr
      rw [Bool.and_eq_true] at hc
      have ek := ikeq_eq hc.1; subst ek
      refine pure_ok _ hr fun ρ hp w a _ _ hE => ⟨_, .of (.bool _), ?_⟩
      have q1 := vx hE hx (by simp [ho, Op.operands])
      have q2 := vx hE hy (by simp [ho, Op.operands])
      rw [e1] at q1; rw [e2] at q2
      have hop := hc.2
      cases op <;> first | (simp [isCmp] at hop; done) | simp [execOp, ho, q1.int, q2.int, eqGuard_int, binOp, Op.intCmp, hcmp]
  · cases hr
theorem ok_eqb {op : BinOp} {neg : Bool} {t t' : TypeId} {x y : Operand} {x' y' : X} (hop : op = if neg then .neq else .eql) (hu : P.underlying t = some .bool) (ho : o.op = .binOp op t x y t') (hx : trX x = some x') (hy : trX y = some y') (hr : evOp C made (.eqb x' y' neg) e H K = some r) : LocalOK P o e H K r cr := by
  simp only [evOp] at hr
  split at hr
  · rename_i a1 a2 e1 e2
    refine pure_ok _ hr fun ρ hp w a _ _ hE => ⟨_, .of (.bool _), ?_⟩
    have q1 := vx hE hx (by simp [ho, Op.operands])
    have q2 := vx hE hy (by simp [ho, Op.operands])
    rw [e1] at q1; rw [e2] at q2
    subst hop
    cases neg <;> simp [execOp, ho, q1.bool, q2.bool, eqGuard_at_bool, run_eql_bool _ _ _ _ hu, run_neq_bool _ _ _ _ hu]
  · cases hr
theorem ok_lnot {t : TypeId} {x : Operand} {x' : X} (ho : o.op = .unOp .not t x) (hx : trX x = some x') (hr : evOp C made (.lnot x') e H K = some r) : LocalOK P o e H K r cr := by
  simp only [evOp] at hr
  split at hr
  · rename_i a1 e1
    refine pure_ok _ hr fun ρ hp w a _ _ hE => ⟨_, .of (.bool _), ?_⟩
    have q1 := vx hE hx (by simp [ho, Op.operands])
    rw [e1] at q1
    simp [execOp, ho, q1.bool, Op.unary]
  · cases hr
theorem ok_neg {t : TypeId} {k : IntKind} {x : Operand} {x' : X} (ho : o.op = .unOp .neg t x) (hx : trX x = some x') (hr : evOp C made (.neg k x') e H K = some r) : LocalOK P o e H K r cr := by
  simp only [evOp] at hr
  split at hr
  · rename_i k1 a1 e1
    cases hc : ikeq k k1 with
    | false => rw [hc] at hr; cases hr
    | true =>
      rw [hc, cond_true] at hr
      have ek := ikeq_eq hc; subst ek
      refine pure_ok _ hr fun ρ hp w a _ _ hE => ⟨_, .of (.int _ _), ?_⟩
      have q1 := vx hE hx (by simp [ho, Op.operands])
      rw [e1] at q1
      simp [execOp, ho, q1.int, Op.unary, Op.intArith]
  · cases hr
theorem equalIn_nilp {t e : TypeId} (d : Nat) (p : Option Addr) (hu : P.underlying t = some (.pointer e)) (w : World) : (Op.equalIn (d + 1) t (.pointer p) (.pointer none)).run P w = .ok p.isNone w := by
  cases p <;> simp [Op.equalIn, run_underlying hu]
theorem equalIn_nils {t e : TypeId} (d : Nat) (p : Option Addr) (l c l' c' : Nat) (hu : P.underlying t = some (.slice e)) (w : World) : (Op.equalIn (d + 1) t (.slice p l c) (.slice none l' c')).run P w = .ok p.isNone w := by
  cases p <;> simp [Op.equalIn, run_underlying hu]
theorem equalIn_nilf {t : TypeId} {x y z} (d : Nat) (hu : P.underlying t = some (.func x y z)) (w : World) : (Op.equalIn (d + 1) t .nilFunc .nilFunc).run P w = .ok true w := by
  simp [Op.equalIn, run_underlying hu]
theorem equalIn_nilf' {t : TypeId} {x y z} (d : Nat) (f a b) (hu : P.underlying t = some (.func x y z)) (w : World) : (Op.equalIn (d + 1) t (.func f a b) .nilFunc).run P w = .ok false w := by
  simp [Op.equalIn, run_underlying hu]
theorem eq_of_equalIn {t : TypeId} {x y : Value} {b : Bool} {w : World} (h : (Op.equalIn (9999 + 1) t x y).run P w = .ok b w) (hx : ∀ k n, x ≠ .int k n) (hx' : ∀ k n, x ≠ .float k n) (hx2 : ∀ k n m, x ≠ .complex k n m) (hx3 : ∀ s, x ≠ .string s) (hy : ∀ k n, y ≠ .int k n) (op : BinOp) (neg : Bool) (hop : op = if neg then .neq else .eql) :
    (binOp op t x y).run P w = .ok (.bool (bif neg then !b else b)) w := by
  subst hop
  have h2 : (Op.equal t x y).run P w = .ok b w := h
  cases neg with
  | false =>
    cases x <;> first | (exfalso; exact hx _ _ rfl) | (exfalso; exact hx' _ _ rfl) | (exfalso; exact hx2 _ _ _ rfl) | (exfalso; exact hx3 _ rfl) |
      (cases y <;> first | (exfalso; exact hy _ _ rfl) | simp [binOp, h2])
  | true =>
    cases x <;> first | (exfalso; exact hx _ _ rfl) | (exfalso; exact hx' _ _ rfl) | (exfalso; exact hx2 _ _ _ rfl) | (exfalso; exact hx3 _ rfl) |
      (cases y <;> first | (exfalso; exact hy _ _ rfl) | simp [binOp, h2])
def kindFits (P : Program) (t : TypeId) (v : Value) : Prop :=
  match v with
  | .pointer _ => ∃ d, P.underlying t = some (.pointer d)
  | .slice _ _ _ => ∃ d, P.underlying t = some (.slice d)
  | _ => ∃ a b c, P.underlying t = some (.func a b c)
/-- The comparison with nil: the operands' kinds are those of the type (asked of the value that is there). -/
theorem ok_eqnil {op : BinOp} {neg : Bool} {t t' : TypeId} {x y : Operand} {x' : X} (hop : op = if neg then .neq else .eql)
    (hy : ((∃ d, P.underlying t = some (.pointer d)) ∧ y = .const (.pointer none)) ∨ ((∃ d, P.underlying t = some (.slice d)) ∧ ∃ l c, y = .const (.slice none l c)) ∨ ((∃ a b c, P.underlying t = some (.func a b c)) ∧ y = .const .nilFunc))
    (ho : o.op = .binOp op t x y t') (hx : trX x = some x') (hr : evOp C made (.eqnil x' neg (match y with | .const (.pointer none) => 0 | .const .nilFunc => 2 | _ => 1)) e H K = some r) : LocalOK P o e H K r cr := by
  rcases hy with ⟨⟨d, hu⟩, rfl⟩ | ⟨⟨d, hu⟩, l, c, rfl⟩ | ⟨⟨a1, b1, c1, hu⟩, rfl⟩
  · simp only [evOp] at hr
    split at hr
    · rename_i p e1 _
      refine pure_ok _ hr fun ρ hp w a _ _ hE => ⟨_, .of (.bool _), ?_⟩
      have q1 := vx hE hx (by simp [ho, Op.operands])
      rw [e1] at q1
      have q2 : ∃ p', a.eval x = .pointer p' ∧ p'.isNone = p.isNone := by
        cases p with
        | none => exact ⟨none, q1.nil, rfl⟩
        | some p => obtain ⟨b, o, s⟩ := p; obtain ⟨_, b', d', _, h⟩ := q1.ptr; exact ⟨_, h, rfl⟩
      obtain ⟨p', h1, h2⟩ := q2
      have h3 := eq_of_equalIn (equalIn_nilp (P := P) 9999 p' hu w) (by simp) (by simp) (by simp) (by simp) (by simp) op neg hop
      have e3 : a.eval (.const (.pointer none)) = .pointer none := rfl
      simp [execOp, ho, h1, e3, eqGuard_at_pointer, h3]
      cases p' <;> cases p <;> cases neg <;> simp_all
    all_goals first | (simp_all; done) | cases hr
  · simp only [evOp] at hr
    split at hr
    · simp_all
    · rename_i p l' c' e1 _
      refine pure_ok _ hr fun ρ hp w a _ _ hE => ⟨_, .of (.bool _), ?_⟩
      have q1 := vx hE hx (by simp [ho, Op.operands])
      rw [e1] at q1
      have q2 : ∃ p' l2 c2, a.eval x = .slice p' l2 c2 ∧ p'.isNone = p.isNone := by
        cases p with
        | none => exact ⟨none, _, _, q1.nils, rfl⟩
        | some p => obtain ⟨_, _, h, _⟩ := q1.slx; exact ⟨_, _, _, h, rfl⟩
      obtain ⟨p', l2, c2, h1, h2⟩ := q2
      have h3 := eq_of_equalIn (equalIn_nils (P := P) 9999 p' l2 c2 l c hu w) (by simp) (by simp) (by simp) (by simp) (by simp) op neg hop
      have e3 : a.eval (.const (.slice none l c)) = .slice none l c := rfl
      simp [execOp, ho, h1, e3, eqGuard_at_slice, h3]
      cases p' <;> cases p <;> cases neg <;> simp_all
    all_goals first | (simp_all; done) | cases hr
  · simp only [evOp] at hr
    split at hr
    · simp_all
    · simp_all
    · rename_i e1 _
      refine pure_ok _ hr fun ρ hp w a _ _ hE => ⟨_, .of (.bool _), ?_⟩
      have q1 := vx hE hx (by simp [ho, Op.operands])
      rw [e1] at q1
      have h1 : a.eval x = .nilFunc := q1.nilf
      have h3 := eq_of_equalIn (equalIn_nilf (P := P) 9999 hu w) (by simp) (by simp) (by simp) (by simp) (by simp) op neg hop
      have e3 : a.eval (.const .nilFunc) = .nilFunc := rfl
      simp [execOp, ho, h1, e3, eqGuard_at_nilFunc, h3]
    · rename_i f x1 x2 e1 _
      refine pure_ok _ hr fun ρ hp w a _ _ hE => ⟨_, .of (.bool _), ?_⟩
      have q1 := vx hE hx (by simp [ho, Op.operands])
      rw [e1] at q1
      have h1 : ∃ g y1 y2, a.eval x = .func g y1 y2 := by obtain ⟨u1, u2, h, _⟩ := q1.func; exact ⟨_, _, _, h⟩
      obtain ⟨g, y1, y2, h1⟩ := h1
      have h3 := eq_of_equalIn (equalIn_nilf' (P := P) 9999 g y1 y2 hu w) (by simp) (by simp) (by simp) (by simp) (by simp) op neg hop
      have e3 : a.eval (.const .nilFunc) = .nilFunc := rfl
      simp [execOp, ho, h1, e3, eqGuard_at_func, h3]
    all_goals first | (simp_all; done) | cases hr
end pure
end Go.Proofs.Ytjajknghcbpblaa.FW
