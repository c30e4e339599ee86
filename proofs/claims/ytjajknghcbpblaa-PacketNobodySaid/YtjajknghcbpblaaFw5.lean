/- Each operation of the own machine stands for the model's: parts of values, slices, what is made. -/
import Derived.Test.YtjajknghcbpblaaFw4
import Derived.Laws.Append
import Derived.IntWalk
set_option linter.unusedVariables false
set_option linter.unusedSimpArgs false
namespace Go.Proofs.Ytjajknghcbpblaa.FW
variable {P : Program} {R : Type}
section pure
variable {o : Oper} {e : Env} {H : Heap} {K : Value → Heap → Option R} {r : R} {cr : Bool} {C : Tab R} {made : List (Nat × Nat × Nat)}
theorem ok_idv {u el : TypeId} {d : TypeDesc} {x i : Operand} {x' i' : X} {n m : Nat} (hu : P.underlying u = some (.array m el)) (hd : P.underlying el = some d) (hs : sz P el = some n)
    (ho : o.op = .index u x i) (hx : trX x = some x') (hi : trX i = some i') (hr : evOp C made (.idv m n (vkOf P el) x' i') e H K = some r) : LocalOK P o e H K r cr := by
  simp only [evOp] at hr
  split at hr
  · rename_i cs k q e1 e2
    split at hr
    · rename_i hb
      obtain ⟨v, h1, h2⟩ := part_abs (K' := fun v => K v H) hr
      refine pure_ok v h2 fun ρ hp w a _ _ hE => ?_
      have q1 := vx hE hx (by simp [ho, Op.operands])
      have q2 := vx hE hi (by simp [ho, Op.operands])
      rw [e1] at q1; rw [e2] at q2
      obtain ⟨ds, h3, h4⟩ := q1.agg
      obtain ⟨v', h5, h6⟩ := part_run hd hs h4 h1
      refine ⟨v', .of h5, ?_⟩
      simp [execOp, ho, h3, q2.int, Instr.index, asIntOf, run_underlying hu, hb, sz_info hs, h6]
    · cases hr
  · cases hr
theorem ok_fld {u : TypeId} {d : TypeDesc} {x : Operand} {x' : X} {f n : Nat} {fs : Array Field} {fd : Field} (hu : P.underlying u = some (.struct fs)) (hf : fs[f]? = some fd) (hs : sz P fd.type = some n) (hd : P.underlying fd.type = some d)
    (ho : o.op = .field u x f) (hx : trX x = some x') (hr : evOp C made (.fld fd.offset n (vkOf P fd.type) x') e H K = some r) : LocalOK P o e H K r cr := by
  simp only [evOp] at hr
  split at hr
  · rename_i cs e1
    obtain ⟨v, h1, h2⟩ := part_abs (K' := fun v => K v H) hr
    refine pure_ok v h2 fun ρ hp w a _ _ hE => ?_
    have q1 := vx hE hx (by simp [ho, Op.operands])
    rw [e1] at q1
    obtain ⟨ds, h3, h4⟩ := q1.agg
    obtain ⟨v', h5, h6⟩ := part_run hd hs h4 h1
    refine ⟨v', .of h5, ?_⟩
    simp [execOp, ho, h3, Instr.field, run_underlying hu, hf, asAgg, h6]
  · cases hr
theorem ok_ext {x : Operand} {x' : X} {i : Nat} (ho : o.op = .extract x i) (hx : trX x = some x') (hr : evOp C made (.ext i x') e H K = some r) : LocalOK P o e H K r cr := by
  simp only [evOp] at hr
  split at hr
  · rename_i cs e1
    split at hr
    · rename_i v hv
      cases hk : okv v with
      | false => rw [hk] at hr; cases hr
      | true =>
        rw [hk, cond_true] at hr
        refine pure_ok v hr fun ρ hp w a _ _ hE => ?_
        have q1 := vx hE hx (by simp [ho, Op.operands])
        rw [e1] at q1
        obtain ⟨cs⟩ := cs
        have hcs : cs[i]? = some v := by simpa using hv
        rcases q1 with q | q | q
        · simp [undef] at q; subst q; simp at hcs
        · have := q.1; simp [skp] at this; subst this
          cases i with
          | zero => simp at hcs; subst hcs; simp [okv] at hk
          | succ i => simp at hcs
        · generalize ha : a.eval x = av at q
          cases q with
          | @tup _ ys l k =>
            obtain ⟨y, h1, h2⟩ := LRel.get ⟨l, k⟩ hcs
            exact ⟨y, .of h2, by simp [execOp, ho, ha, Instr.extract, h1]⟩
    · cases hr
  · cases hr
theorem ok_cnv {u v : TypeId} {d : TypeDesc} {k : IntKind} {x : Operand} {x' : X} (hu : P.underlying u = some d) (hv : P.underlying v = some (.int k)) (ho : o.op = .convert u v x) (hx : trX x = some x') (hr : evOp C made (.cnv k x') e H K = some r) : LocalOK P o e H K r cr := by
  simp only [evOp] at hr
  split at hr
  · rename_i k0 n e1
    refine pure_ok _ hr fun ρ hp w a _ _ hE => ⟨_, .of (.int _ _), ?_⟩
    have q1 := vx hE hx (by simp [ho, Op.operands])
    rw [e1] at q1
    simp [execOp, ho, q1.int, convert, run_underlying hu, run_underlying hv, Conv.intToInt]
  · cases hr
theorem trXs_rel {ρ : Ren} {a : Act} (hE : Reads ρ e a o) : ∀ {xs : List Operand} {ys : List X}, trXs xs = some ys → (∀ x ∈ xs, x ∈ o.op.operands) → allOk (gxs e ys) = true → LRel ρ (gxs e ys) (xs.map a.eval) := by
  intro xs
  induction xs with
  | nil => intro ys h _ _; simp [trXs] at h; subst h; exact .nil
  | cons x xs ih =>
    intro ys h hm hk
    simp only [trXs] at h
    split at h
    · rename_i y zs h1 h2
      cases h
      simp only [gxs, allOk] at hk ⊢
      cases hy : okv (gx e y) with
      | false => rw [hy] at hk; cases hk
      | true =>
        rw [hy, cond_true] at hk
        exact .cons ((vx hE h1 (hm x (by simp))).rel hy) (ih h2 (fun z hz => hm z (by simp [hz])) hk)
    · cases h
theorem ok_mkf {f : FuncId} {caps : Array Operand} {xs : List X} (ho : o.op = .makeFunc (.func f) #[] caps) (hx : trXs caps.toList = some xs) (hr : evOp C made (.mkf f xs) e H K = some r) : LocalOK P o e H K r cr := by
  simp only [evOp] at hr
  cases hk : allOk (gxs e xs) with
  | false => rw [hk] at hr; cases hr
  | true =>
    rw [hk, cond_true] at hr
    refine pure_ok _ hr fun ρ hp w a _ _ hE => ?_
    have h1 := trXs_rel hE hx (fun x hx => by simp [ho, Op.operands]; simpa using hx) hk
    refine ⟨.func (.func f) #[] ⟨caps.toList.map a.eval⟩, .of (.func _ rfl (fun i x y q => by simp at q) h1.1 h1.2), ?_⟩
    have e2 : Array.map a.eval caps = ⟨caps.toList.map a.eval⟩ := Array.ext' (by simp)
    simp [execOp, ho, Instr.makeFunc, e2]
theorem run_builtin (P : Program) {b : Builtin} {c : Call} (hc : c.callee = .builtin b) (ho : o.op = .call c) : ∃ cs : Array Bool, ∀ (a : Act) (w : World), (execOp a.eval o).run P w = (builtin b c.argTypes o.type cs (c.args.map a.eval)).run P w := by
  refine ⟨c.args.map fun x => match x with | .const _ => true | _ => false, fun a w => ?_⟩
  simp [execOp, ho, resolve, hc, invoke]
  rfl
theorem ok_len {c : Call} {u d : TypeId} {x : Operand} {x' : X} (hc : c.callee = .builtin .len) (ht : c.argTypes.toList = [u]) (ha : c.args.toList = [x]) (hu : P.underlying u = some (.slice d))
    (ho : o.op = .call c) (hx : trX x = some x') (hr : evOp C made (.len false x') e H K = some r) : LocalOK P o e H K r cr := by
  have ht' : c.argTypes = #[u] := Array.ext' ht
  have ha' : c.args = #[x] := Array.ext' ha
  have hm : x ∈ o.op.operands := by simp [ho, Op.operands, Call.operands, hc, ha']
  simp only [evOp] at hr
  split at hr
  · rename_i p l cp e1 _
    refine pure_ok _ hr fun ρ hp w a _ _ hE => ⟨_, .of (.int _ _), ?_⟩
    have q1 := vx hE hx hm
    rw [e1] at q1
    have q2 : ∃ p' c', a.eval x = .slice p' l c' := by
      cases p with
      | none => exact ⟨_, _, q1.nils⟩
      | some p => obtain ⟨_, _, h, _⟩ := q1.slx; exact ⟨_, _, h⟩
    obtain ⟨p', c', h⟩ := q2
    obtain ⟨cs, hb⟩ := run_builtin P hc ho
    rw [hb]
    simp [builtin, ht', ha', h, Builtin.len_, run_underlying hu, goInt]
  · simp_all
  · cases hr
theorem ok_lenT {c : Call} {u : TypeId} {x : Operand} {x' : X} (hc : c.callee = .builtin .len) (ht : c.argTypes.toList = [u]) (ha : c.args.toList = [x]) (hu : P.underlying u = some .string)
    (ho : o.op = .call c) (hx : trX x = some x') (hr : evOp C made (.len true x') e H K = some r) : LocalOK P o e H K r cr := by
  have ht' : c.argTypes = #[u] := Array.ext' ht
  have ha' : c.args = #[x] := Array.ext' ha
  have hm : x ∈ o.op.operands := by simp [ho, Op.operands, Call.operands, hc, ha']
  simp only [evOp] at hr
  split at hr
  · simp_all
  · rename_i s e1 _
    refine pure_ok _ hr fun ρ hp w a _ _ hE => ⟨_, .of (.int _ _), ?_⟩
    have q1 := vx hE hx hm
    rw [e1] at q1
    obtain ⟨cs, hb⟩ := run_builtin P hc ho
    rw [hb]
    simp [builtin, ht', ha', q1.str, Builtin.len_, run_underlying hu, goInt]
  · cases hr
theorem ok_cst {c : Call} {u el : TypeId} {n : Nat} {x : Operand} {x' : X} (hc : c.callee = .builtin .len) (ht : c.argTypes.toList = [u]) (ha : c.args.toList = [x]) (hu : P.underlying u = some (.array n el))
    (ho : o.op = .call c) (hr : evOp C made (.cst n x') e H K = some r) : LocalOK P o e H K r cr := by
  have ht' : c.argTypes = #[u] := Array.ext' ht
  have ha' : c.args = #[x] := Array.ext' ha
  refine pure_ok _ hr fun ρ hp w a _ _ hE => ⟨_, .of (.int _ _), ?_⟩
  obtain ⟨cs, hb⟩ := run_builtin P hc ho
  rw [hb]
  simp [builtin, ht', ha', Builtin.len_, run_underlying hu, goInt]
theorem ok_mx {c : Call} {x y : Operand} {x' y' : X} (hc : c.callee = .builtin .max) (ha : c.args.toList = [x, y]) (ho : o.op = .call c) (hx : trX x = some x') (hy : trX y = some y') (hr : evOp C made (.mx x' y') e H K = some r) : LocalOK P o e H K r cr := by
  have ha' : c.args = #[x, y] := Array.ext' ha
  simp only [evOp] at hr
  split at hr
  · rename_i k p k' q e1 e2
    cases hk : ikeq k k' with
    | false => rw [hk] at hr; cases hr
    | true =>
      rw [hk, cond_true] at hr
      have := ikeq_eq hk; subst this
      refine pure_ok _ hr fun ρ hp w a _ _ hE => ⟨_, .of (.int _ _), ?_⟩
      have q1 := vx hE hx (by simp [ho, Op.operands, Call.operands, hc, ha'])
      have q2 := vx hE hy (by simp [ho, Op.operands, Call.operands, hc, ha'])
      rw [e1] at q1; rw [e2] at q2
      obtain ⟨cs, hb⟩ := run_builtin P hc ho
      rw [hb]
      simp [builtin, ha', q1.int, q2.int, Builtin.max_, Builtin.max2]
  · cases hr
theorem ok_mn {c : Call} {x y : Operand} {x' y' : X} (hc : c.callee = .builtin .min) (ha : c.args.toList = [x, y]) (ho : o.op = .call c) (hx : trX x = some x') (hy : trX y = some y') (hr : evOp C made (.mn x' y') e H K = some r) : LocalOK P o e H K r cr := by
  have ha' : c.args = #[x, y] := Array.ext' ha
  simp only [evOp] at hr
  split at hr
  · rename_i k p k' q e1 e2
    cases hk : ikeq k k' with
    | false => rw [hk] at hr; cases hr
    | true =>
      rw [hk, cond_true] at hr
      have := ikeq_eq hk; subst this
      refine pure_ok _ hr fun ρ hp w a _ _ hE => ⟨_, .of (.int _ _), ?_⟩
      have q1 := vx hE hx (by simp [ho, Op.operands, Call.operands, hc, ha'])
      have q2 := vx hE hy (by simp [ho, Op.operands, Call.operands, hc, ha'])
      rw [e1] at q1; rw [e2] at q2
      obtain ⟨cs, hb⟩ := run_builtin P hc ho
      rw [hb]
      simp [builtin, ha', q1.int, q2.int, Builtin.min_, Builtin.min2]
  · cases hr
theorem ok_alc {el : TypeId} {z : List Value} (hz : zer P el = some z) (hf : z.all ptrFreeC = true) (ho : o.op = .alloc el) (hr : evOp C made (.alc z) e H K = some r) : LocalOK P o e H K r true := by
  simp only [evOp] at hr
  refine new_ok _ z 0 (fun _ _ _ _ _ _ => oneCs_of hf) hr fun ρ hp w a _ _ hE => ?_
  have hz' : ∃ i zv, P.info? el = some i ∧ i.zero = some zv ∧ zv.cells.toList = z := by
    unfold zer at hz
    cases h1 : P.info? el with
    | none => rw [h1] at hz; cases hz
    | some i =>
      rw [h1] at hz
      cases h2 : i.zero with
      | none => simp [h2] at hz
      | some zv => simp [h2] at hz; exact ⟨i, zv, rfl, h2, by simpa using hz⟩
  obtain ⟨i, zv, h1, h2, h3⟩ := hz'
  refine ⟨zv.cells, el, .pointer (some ⟨w.heap.size, 0, none⟩), { w with heap := w.heap.push (.cells zv.cells el) }, 0, fun j x hj => ?_, by simp, fun ρ' h => .of (.ptr ⟨_, h⟩), ?_, rfl, rfl, rfl, rfl⟩
  · refine ⟨x, by rw [← h3] at hj; simpa using hj, VRel.self (ptrFree_of (List.all_eq_true.1 hf x (List.mem_of_getElem? hj))) (okv_of (List.all_eq_true.1 hf x (List.mem_of_getElem? hj))) ρ⟩
  · simp [execOp, ho, Instr.alloc, zeroValue, typeInfo, h1, h2, newVar, newRow, newObj, Sem.run]
end pure
end Go.Proofs.Ytjajknghcbpblaa.FW
