/- The model's operations in resolved form (types' sizes, offsets and zero values looked up in the program). -/
import Derived.Test.YtjajknghcbpblaaFw1
set_option linter.unusedVariables false
set_option linter.unusedSimpArgs false
namespace Go.Proofs.Ytjajknghcbpblaa.FW
/-- Functions that may be met read-only: 'drop' always (the result holds no address, what the call made is dropped); where the region's order is drawn also 'pure' (as 'drop'), and 'fresh' (the result may hold addresses of what the call made). -/
structure Ann where
  drop : List Nat
  pure : List Nat
  fresh : List Nat
  wr : List Nat
def sz (P : Program) (t : TypeId) : Option Nat := (P.info? t).map (·.size)
def byts (P : Program) (t : TypeId) : Option Nat := (P.info? t).map (·.bytes)
def zer (P : Program) (t : TypeId) : Option (List Value) := ((P.info? t).bind (·.zero)).map (·.cells.toList)
def skOf (P : Program) (t : TypeId) : SK :=
  match P.underlying t with
  | some (.int k) => .int k
  | some .bool => .bool
  | some (.pointer _) => .ptr
  | some (.slice _) => .slc
  | some .string => .str
  | some (.func ..) => .fn
  | _ => .any
def rep {α : Type} (l : List α) : Nat → List α
  | 0 => []
  | n + 1 => l ++ rep l n
/-- The kinds of a type's cells. -/
def kinds (P : Program) : Nat → TypeId → List SK
  | 0, _ => []
  | d + 1, t => match P.underlying t with
    | some (.struct fs) => fs.toList.flatMap fun f => kinds P d f.type
    | some (.array n e) => rep (kinds P d e) n
    | _ => [skOf P t]
def isAg (P : Program) (t : TypeId) : Bool :=
  match P.underlying t with
  | some (.struct _) | some (.array _ _) => true
  | _ => false
def vkOf (P : Program) (t : TypeId) : VK := bif isAg P t then .agg (kinds P 6 t) else .sc (skOf P t)
def rkOf (P : Program) (t : TypeId) : RK :=
  match P.underlying t with
  | some (.tuple ts) => match ts.toList with
    | [] => .none
    | ts => .tup (ts.map (vkOf P))
  | _ => .one (vkOf P t)
def trX : Operand → Option X
  | .tmp t => some (.t t)
  | .const v => bif ptrFree v && okv v then some (.c v) else none
  | .func f => some (.c (.func (.func f) #[] #[]))
  | .global _ => none
def trXs : List Operand → Option (List X)
  | [] => some []
  | x :: xs => match trX x, trXs xs with
    | some y, some ys => some (y :: ys)
    | _, _ => none
def trXo : Option Operand → Option (Option X)
  | none => some none
  | some x => match trX x with
    | some y => some (some y)
    | none => none
/-- The places of the parts of a struct. -/
def places (pl : List (Nat × Nat)) : List (Nat × Operand) → Option (List (Nat × Nat × X))
  | [] => some []
  | (i, x) :: ps => match pl[i]?, trX x, places pl ps with
    | some (o, n), some y, some ys => some ((o, n, y) :: ys)
    | _, _, _ => none
def placesA (size : Nat) : List (Nat × Operand) → Option (List (Nat × Nat × X))
  | [] => some []
  | (i, x) :: ps => match trX x, placesA size ps with
    | some y, some ys => some ((i * size, size, y) :: ys)
    | _, _ => none
def scalarOff (P : Program) (f : Field) : Option (Nat × Nat) :=
  match P.underlying f.type with
  | some (.int _) => bif f.name == "_" then none else some (f.offset, 0)
  | some .bool => bif f.name == "_" then none else some (f.offset, 1)
  | some .string => bif f.name == "_" then none else some (f.offset, 2)
  | _ => none
def offs (P : Program) : List Field → Option (List (Nat × Nat))
  | [] => some []
  | f :: fs => match scalarOff P f, offs P fs with
    | some o, some os => some (o :: os)
    | _, _ => none
def trBin (P : Program) (op : BinOp) (t : TypeId) (x y : Operand) : Option IOp :=
  match trX x, trX y with
  | some a, some b =>
    match P.underlying t with
    | some (.int k) => bif isArith op || isShift op then some (.bin op k a b) else bif isCmp op then some (.cmp op a b) else none
    | some .bool => match op with
      | .eql => some (.eqb a b false)
      | .neq => some (.eqb a b true)
      | _ => none
    | some .string => match op with
      | .eql => some (.eqT a b false)
      | .neq => some (.eqT a b true)
      | _ => none
    | some (.pointer _) => match op, y with
      | .eql, .const (.pointer none) => some (.eqnil a false 0)
      | .neq, .const (.pointer none) => some (.eqnil a true 0)
      | _, _ => none
    | some (.slice _) => match op, y with
      | .eql, .const (.slice none _ _) => some (.eqnil a false 1)
      | .neq, .const (.slice none _ _) => some (.eqnil a true 1)
      | _, _ => none
    | some (.func ..) => match op, y with
      | .eql, .const .nilFunc => some (.eqnil a false 2)
      | .neq, .const .nilFunc => some (.eqnil a true 2)
      | _, _ => none
    | some (.struct fs) => bif P.stoodInHeld t || P.eqGuardType P.depth t then none else match offs P fs.toList with
      | some os => match op with
        | .eql => some (.eqs os a b false)
        | .neq => some (.eqs os a b true)
        | _ => none
      | none => none
    | _ => none
  | _, _ => none
def trCall (P : Program) (an : Ann) (bar : Bool) (hide : List Nat) (c : Call) (t : TypeId) : Option IOp :=
  match c.callee with
  | .builtin b =>
    match b, c.argTypes.toList, c.args.toList with
    | .len, [u], [x] => match trX x, P.underlying u with
      | some x, some (.slice _) => some (.len false x)
      | some x, some .string => some (.len true x)
      | some x, some (.array n _) => some (.cst n x)
      | _, _ => none
    | .max, _, [x, y] => match trX x, trX y with
      | some x, some y => some (.mx x y)
      | _, _ => none
    | .min, _, [x, y] => match trX x, trX y with
      | some x, some y => some (.mn x y)
      | _, _ => none
    | .append, [u, u'], [x, y] => match trX x, trX y, P.underlying u, P.underlying u' with
      | some s, some y, some (.slice e), some (.slice _) => match zer P e, byts P e, sz P e with
        | some z, some n, some m => bif Nat.beq m z.length && !(Nat.beq m 0) && !(Nat.beq n 0) && z.all ptrFreeC then
            (match x with
             | .const (.slice none _ _) => some (.apn z n s y)
             | _ => bif bar then some (.app z n s y) else some (.apn z n s y)) else none
        | _, _, _ => none
      | _, _, _, _ => none
    | .copy, [u, _], [x, y] => match trX x, trX y, P.underlying u with
      | some d, some s, some (.slice e) => match sz P e with
        | some m => bif Nat.beq m 0 then none else some (.cpy m d s)
        | none => none
      | _, _, _ => none
    | .clear, [u], [x] => match trX x, P.underlying u with
      | some s, some (.slice e) => match zer P e, sz P e with
        | some z, some m => bif Nat.beq m z.length && !(Nat.beq m 0) && z.all ptrFreeC then some (.clr z s) else none
        | _, _ => none
      | _, _ => none
    | _, _, _ => none
  | .value (.func f) => match trXs c.args.toList with
    | some xs => match P.funcs[f]? with
      | some fn => bif fn.body.isSome && !(fn.name == "runtime.NumGoroutine") then
          (bif an.drop.elem f || (!bar && an.pure.elem f) then some (.calp f xs (rkOf P t)) else bif !bar && an.fresh.elem f then some (.calf f xs hide (rkOf P t)) else some (.call f xs (rkOf P t))) else none
      | none => none
    | none => none
  | .value (.tmp g) => match trXs c.args.toList with
    | some xs => bif bar then some (.calv (.t g) xs (rkOf P t)) else some (.calq (.t g) xs (rkOf P t))
    | none => none
  | _ => none
def trOp (P : Program) (an : Ann) (bar : Bool) (hide : List Nat) (op : Op) (t : TypeId) : Option IOp :=
  match op with
  | .move x | .assign x => match trX x with
    | some x => some (.mov x)
    | none => none
  | .pick c a b => match trX c, trX a, trX b with
    | some c, some a, some b => some (.pick c a b)
    | _, _, _ => none
  | .binOp op u x y _ => trBin P op u x y
  | .unOp .not _ x => match trX x with
    | some x => some (.lnot x)
    | none => none
  | .unOp .neg u x => match trX x, P.underlying u with
    | some x, some (.int k) => some (.neg k x)
    | _, _ => none
  | .load u a => match trX a, sz P u with
    | some a, some n => bif isAg P u then (bif Nat.beq (kinds P 6 u).length n && !(Nat.beq n 0) then some (.ld (vkOf P u) a) else none) else
        (match P.underlying u with | some _ => some (.ld (vkOf P u) a) | none => none)
    | _, _ => none
  | .store u a v => match trX a, trX v, sz P u with
    | some a, some v, some n => some (.st n a v)
    | _, _, _ => none
  | .nilCheck x => match trX x with
    | some x => some (.nilc x)
    | none => none
  | .fieldAddr u x f => match trX x, P.underlying u with
    | some x, some (.struct fs) => match fs[f]? with
      | some fd => match sz P fd.type with
        | some n => bif Nat.beq n 0 then none else some (.fad fd.offset x)
        | none => none
      | none => none
    | _, _ => none
  | .field u x f => match trX x, P.underlying u with
    | some x, some (.struct fs) => match fs[f]? with
      | some fd => match sz P fd.type, P.underlying fd.type with
        | some n, some _ => some (.fld fd.offset n (vkOf P fd.type) x)
        | _, _ => none
      | none => none
    | _, _ => none
  | .indexAddr u x i => match trX x, trX i, P.underlying u with
    | some x, some i, some (.slice e) => match sz P e with
      | some n => bif Nat.beq n 0 then none else some (.ids n x i)
      | none => none
    | some x, some i, some (.array m e) => match sz P e with
      | some n => bif Nat.beq n 0 then none else some (.ida m n x i)
      | none => none
    | _, _, _ => none
  | .index u x i => match trX x, trX i, P.underlying u with
    | some x, some i, some (.array m e) => match sz P e, P.underlying e with
      | some n, some _ => some (.idv m n (vkOf P e) x i)
      | _, _ => none
    | some x, some i, some .string => some (.idt x i)
    | _, _, _ => none
  | .extract x i => match trX x with
    | some x => some (.ext i x)
    | none => none
  | .alloc e => match zer P e with
    | some z => bif z.all ptrFreeC then some (.alc z) else none
    | none => none
  | .box _ x => match trX x with
    | some x => some (.box x)
    | none => none
  | .build u parts => match P.underlying u, zer P u with
    | some (.struct fs), some z => bif z.all ptrFreeC then (match fs.toList.mapM (fun f => (P.info? f.type).map fun i => (f.offset, i.size)) with
      | some pl => match places pl parts.toList with
        | some ps => some (.bld z ps)
        | none => none
      | none => none) else none
    | some (.array _ e), some z => bif z.all ptrFreeC then (match sz P e with
      | some n => match placesA n parts.toList with
        | some ps => some (.bld z ps)
        | none => none
      | none => none) else none
    | _, _ => none
  | .buildSlice u len parts => match P.underlying u with
    | some (.slice e) => match zer P e, sz P e with
      | some z, some n => bif Nat.beq n z.length && !(Nat.beq n 0) && z.all ptrFreeC && Nat.ble (len * n) 16777216 then (match placesA n parts.toList with
        | some ps => some (.bls len (rep z len) ps)
        | none => none) else none
      | _, _ => none
    | _ => none
  | .makeSlice u l c => match trX l, trX c, P.underlying u with
    | some l, some c, some (.slice e) => match zer P e, sz P e, byts P e with
      | some z, some n, some b => bif Nat.beq n z.length && !(Nat.beq n 0) && !(Nat.beq b 0) && z.all ptrFreeC then some (.mks z b l c) else none
      | _, _, _ => none
    | _, _, _ => none
  | .slice u x lo hi mx => match trX x, trXo lo, trXo hi, trXo mx, P.underlying u with
    | some x, some lo, some hi, some mx, some (.slice e) => match sz P e with
      | some n => bif Nat.beq n 0 || (mx.isSome && hi.isNone) then none else some (.slc n x lo hi mx)
      | none => none
    | some x, some lo, some hi, some mx, some (.array m e) => match sz P e with
      | some n => bif Nat.beq n 0 || (mx.isSome && hi.isNone) then none else some (.sla m n x lo hi mx)
      | none => none
    | _, _, _, _, _ => none
  | .convert u v x => match trX x, P.underlying u, P.underlying v with
    | some x, some (.int _), some (.int k) => some (.cnv k x)
    | some x, some (.slice e), some .string => match P.underlying e with
      | some (.int .u8) => some (.b2s x)
      | _ => none
    | some x, some (.slice e), some (.slice _) => match P.underlying e with
      | some (.int .u8) => bif u == v then some (.cvs x) else none
      | _ => none
    | _, _, _ => none
  | .makeFunc (.func f) first caps => match first.toList, trXs caps.toList with
    | [], some xs => some (.mkf f xs)
    | _, _ => none
  | .call c => trCall P an bar hide c t
  | _ => none
end Go.Proofs.Ytjajknghcbpblaa.FW
