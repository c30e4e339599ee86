/- A machine of one's own beside the model's: values with abstract addresses, a heap as a list of blocks, code in a resolved form, evaluated in the order of the text, continuation-passing. -/
import Derived.Calls
import Derived.Orders
import Derived.Laws.BytesArg
set_option linter.unusedVariables false
set_option linter.unusedSimpArgs false
namespace Go.Proofs.Ytjajknghcbpblaa.FW
/-- A capacity that is not known (it is at least the length). -/
def unk : Nat := 1180591620717411303424
/-- What stands for a skipped operation's result. -/
def skp : Value := .tuple #[.tuple #[]]
structure Blk where
  cells : List Value
  ro : Bool
  sz : Nat := 0
abbrev Heap := List (Option Blk)
def hblk : Heap → Nat → Option Blk
  | [], _ => none
  | x :: _, 0 => x
  | _ :: l, n + 1 => hblk l n
def hcell (H : Heap) (b o : Nat) : Option Value :=
  match hblk H b with
  | some B => B.cells[o]?
  | none => none
def hset : Heap → Nat → Option Blk → Heap
  | [], _, _ => []
  | _ :: l, 0, y => y :: l
  | x :: l, n + 1, y => x :: hset l n y
/-- The heap with every block read-only. -/
def roH (H : Heap) : Heap := H.map fun x => x.map fun B => ⟨B.cells, true, B.sz⟩
abbrev Env := List (Nat × Value)
def eget : Env → Nat → Value
  | [], _ => undef
  | (t, v) :: e, n => bif Nat.beq t n then v else eget e n
inductive X where
  | t (n : Nat)
  | c (v : Value)
def gx (e : Env) : X → Value
  | .t n => eget e n
  | .c v => v
inductive SK where
  | int (k : IntKind) | bool | ptr | slc | str | fn | any
inductive VK where
  | sc (s : SK) | agg (l : List SK)
inductive RK where
  | none | one (v : VK) | tup (l : List VK)
def ikeq : IntKind → IntKind → Bool
  | .i8, .i8 | .i16, .i16 | .i32, .i32 | .i64, .i64 | .u8, .u8 | .u16, .u16 | .u32, .u32 | .u64, .u64 => true
  | _, _ => false
def okv : Value → Bool
  | .tuple _ => false
  | _ => true
/-- An atom holds no address. -/
def ptrFreeC : Value → Bool
  | .bool _ | .int _ _ | .float _ _ | .string _ | .pointer none | .slice none _ _ | .nilFunc | .nilIface => true
  | _ => false
def ptrFree : Value → Bool
  | .agg cs => cs.toList.all ptrFreeC
  | .tuple cs => cs.toList.all fun | .agg ds => ds.toList.all ptrFreeC | v => ptrFreeC v
  | v => ptrFreeC v
inductive IOp where
  | mov (x : X)
  | pick (c a b : X)
  | bin (op : BinOp) (k : IntKind) (x y : X)
  | cmp (op : BinOp) (x y : X)
  | eqb (x y : X) (neg : Bool)
  | eqnil (x : X) (neg : Bool) (kd : Nat)
  | eqs (offs : List (Nat × Nat)) (x y : X) (neg : Bool)
  | lnot (x : X)
  | neg (k : IntKind) (x : X)
  | ld (k : VK) (a : X)
  | ldr (k : VK) (a : X)
  | st (n : Nat) (a v : X)
  | nilc (x : X)
  | fad (off : Nat) (x : X)
  | ids (size : Nat) (x i : X)
  | ida (len size : Nat) (x i : X)
  | idv (len size : Nat) (k : VK) (x i : X)
  | fld (off size : Nat) (k : VK) (x : X)
  | ext (i : Nat) (x : X)
  | alc (zero : List Value)
  | box (x : X)
  | bld (zero : List Value) (parts : List (Nat × Nat × X))
  | bls (n : Nat) (cells : List Value) (parts : List (Nat × Nat × X))
  | mks (zero : List Value) (bytes : Nat) (l c : X)
  | slc (size : Nat) (x : X) (lo hi mx : Option X)
  | sla (len size : Nat) (x : X) (lo hi mx : Option X)
  | cnv (k : IntKind) (x : X)
  | len (str : Bool) (x : X)
  | cst (n : Nat) (x : X)
  | mx (x y : X)
  | mn (x y : X)
  | app (zero : List Value) (bytes : Nat) (s x : X)
  | apn (zero : List Value) (bytes : Nat) (s x : X)
  | cpy (size : Nat) (d s : X)
  | clr (zero : List Value) (s : X)
  | cvs (s : X)
  | call (f : Nat) (args : List X) (k : RK)
  | calp (f : Nat) (args : List X) (k : RK)
  | calf (f : Nat) (args : List X) (hide : List Nat) (k : RK)
  | calv (g : X) (args : List X) (k : RK)
  | calq (g : X) (args : List X) (k : RK)
  | mkf (f : Nat) (caps : List X)
  | b2s (x : X)
  | eqT (x y : X) (neg : Bool)
  | idt (x i : X)
structure IOper where
  dst : Option Nat
  op : IOp
  guard : Option (Nat × Bool)
inductive IC where
  | skip
  | reg (ops : List IOper) (live : List Nat)
  | seq (a b : IC)
  | cond (x : X) (a b : IC)
  | block (id : Nat) (b : IC)
  | loop (b : IC)
  | exit (id : Nat)
  | ret
  | opq (i : Nat) (ls : List Nat) (c : IC)
  | frz (t : Nat) (c : IC)
structure Out where
  on : List Nat
  oe : List (Nat × List Nat)
  orr : List Nat
def lkp : List (Nat × List Nat) → Nat → List Nat
  | [], _ => []
  | (i, l) :: ls, n => bif Nat.beq i n then l else lkp ls n
inductive Xit where
  | normal
  | exit (id : Nat)
  | ret
def Out.of (o : Out) : Xit → List Nat
  | .normal => o.on
  | .exit i => lkp o.oe i
  | .ret => o.orr
section helpers
variable {R : Type}
def hbin (op : BinOp) (k : IntKind) (a b : Int) (K : Int → Option R) : Option R :=
  match op with
  | .add => K (k.wrap (a + b))
  | .sub => K (k.wrap (a - b))
  | .mul => K (k.wrap (a * b))
  | .quo => if b = 0 then none else K (k.wrap (a.tdiv b))
  | .rem => if b = 0 then none else K (a.tmod b)
  | .shl => if b < 0 then none else K (k.wrap (a * 2 ^ (min b.toNat k.bits)))
  | .shr => if b < 0 then none else K (a.fdiv (2 ^ (min b.toNat k.bits)))
  | .and => K (k.wrap (BitVec.ofInt k.bits a &&& BitVec.ofInt k.bits b).toNat)
  | .or => K (k.wrap (BitVec.ofInt k.bits a ||| BitVec.ofInt k.bits b).toNat)
  | .xor => K (k.wrap (BitVec.ofInt k.bits a ^^^ BitVec.ofInt k.bits b).toNat)
  | .andNot => K (k.wrap (BitVec.ofInt k.bits a &&& ~~~ BitVec.ofInt k.bits b).toNat)
  | _ => none
def isArith : BinOp → Bool
  | .add | .sub | .mul | .quo | .rem | .and | .or | .xor | .andNot => true
  | _ => false
def isShift : BinOp → Bool
  | .shl | .shr => true
  | _ => false
def hcmp (op : BinOp) (a b : Int) : Bool :=
  match op with
  | .eql => a == b
  | .neq => a != b
  | .lss => a < b
  | .leq => a ≤ b
  | .gtr => a > b
  | .geq => a ≥ b
  | _ => false
def isCmp : BinOp → Bool
  | .eql | .neq | .lss | .leq | .gtr | .geq => true
  | _ => false
def ldI (k : IntKind) (H : Heap) (a : Option Addr) (K : Int → Option R) : Option R :=
  match a with
  | some ⟨b, o, _⟩ => match hcell H b o with
    | some (.int k' n) => bif ikeq k k' then K n else none
    | _ => none
  | none => none
def ldB (H : Heap) (a : Option Addr) (K : Bool → Option R) : Option R :=
  match a with
  | some ⟨b, o, _⟩ => match hcell H b o with
    | some (.bool n) => K n
    | _ => none
  | none => none
def ldP (H : Heap) (a : Option Addr) (K : Option Addr → Option R) : Option R :=
  match a with
  | some ⟨b, o, _⟩ => match hcell H b o with
    | some (.pointer n) => K n
    | _ => none
  | none => none
def ldL (H : Heap) (a : Option Addr) (K : Option Addr → Nat → Nat → Option R) : Option R :=
  match a with
  | some ⟨b, o, _⟩ => match hcell H b o with
    | some (.slice p l c) => K p l c
    | _ => none
  | none => none
def ldT (H : Heap) (a : Option Addr) (K : ByteArray → Option R) : Option R :=
  match a with
  | some ⟨b, o, _⟩ => match hcell H b o with
    | some (.string s) => K s
    | _ => none
  | none => none
def ldV (H : Heap) (a : Option Addr) (K : Value → Option R) : Option R :=
  match a with
  | some ⟨b, o, _⟩ => match hcell H b o with
    | some v => K v
    | _ => none
  | none => none
def ldS (s : SK) (H : Heap) (a : Option Addr) (K : Value → Option R) : Option R :=
  match s with
  | .int k => ldI k H a fun n => K (.int k n)
  | .bool => ldB H a fun b => K (.bool b)
  | .ptr => ldP H a fun p => K (.pointer p)
  | .slc => ldL H a fun p l c => K (.slice p l c)
  | .str => ldT H a fun s => K (.string s)
  | .fn | .any => ldV H a K
def pad (a : Option Addr) (i : Nat) : Option Addr :=
  match a with
  | some ⟨b, o, _⟩ => some ⟨b, o + i, none⟩
  | none => none
def ldN : List SK → Heap → Option Addr → Nat → (List Value → Option R) → Option R
  | [], _, _, _, K => K []
  | s :: ks, H, a, i, K => ldS s H (pad a i) fun v => ldN ks H a (i + 1) fun vs => K (v :: vs)
/-- A value of which the shape is known: the continuation meets it in constructor form. -/
def asS (s : SK) (v : Value) (K : Value → Option R) : Option R :=
  match s, v with
  | .int k, .int k' n => bif ikeq k k' then K (.int k n) else none
  | .bool, .bool b => K (.bool b)
  | .ptr, .pointer p => K (.pointer p)
  | .slc, .slice p l c => K (.slice p l c)
  | .str, .string s => K (.string s)
  | .fn, v => K v
  | .any, v => K v
  | _, _ => none
def asN : List SK → List Value → (List Value → Option R) → Option R
  | [], [], K => K []
  | s :: ks, v :: vs, K => asS s v fun v => asN ks vs fun vs => K (v :: vs)
  | _, _, _ => none
def asK (k : VK) (v : Value) (K : Value → Option R) : Option R :=
  match k, v with
  | .sc s, v => asS s v K
  | .agg ks, .agg cs => asN ks cs.toList fun vs => K (.agg ⟨vs⟩)
  | _, _ => none
def asT : List VK → List Value → (List Value → Option R) → Option R
  | [], [], K => K []
  | k :: ks, v :: vs, K => asK k v fun v => asT ks vs fun vs => K (v :: vs)
  | _, _, _ => none
def asR (k : RK) (v : Value) (K : Value → Option R) : Option R :=
  match k, v with
  | .none, _ => K undef
  | .one k, v => asK k v K
  | .tup ks, .tuple cs => asT ks cs.toList fun vs => K (.tuple ⟨vs⟩)
  | _, _ => none
/-- A number, or a bit, whose kind is known. -/
def asI (k : IntKind) (v : Value) (K : Int → Option R) : Option R :=
  match v with
  | .int k' n => bif ikeq k k' then K n else none
  | _ => none
def asB1 (v : Value) (K : Bool → Option R) : Option R :=
  match v with
  | .bool b => K b
  | _ => none
/-- A cell of an array that is a value. -/
def vat (cs : List Value) (len size : Nat) (n : Int) (K : Value → Option R) : Option R :=
  if 0 ≤ n ∧ n < len then (match cs[n.toNat * size]? with | some v => K v | none => none) else none
def hnil (a : Option Addr) (K : Option Addr → Option R) : Option R :=
  match a with
  | some a => K (some a)
  | none => none
def hfad (off : Nat) (a : Option Addr) (K : Option Addr → Option R) : Option R :=
  match a with
  | some ⟨b, o, _⟩ => K (some ⟨b, o + off, none⟩)
  | none => none
def hidx (p : Option Addr) (l : Nat) (n : Int) (size : Nat) (K : Option Addr → Option R) : Option R :=
  match p with
  | some ⟨b, o, _⟩ => if 0 ≤ n ∧ n < l then K (some ⟨b, o + n.toNat * size, none⟩) else none
  | none => none
def splice (l : List Value) (o : Nat) (vs : List Value) : List Value := l.take o ++ vs ++ l.drop (o + vs.length)
def oneC : Value → Bool
  | .agg _ | .tuple _ => false
  | _ => true
/-- Stores cells. -/
def hst (H : Heap) (a : Option Addr) (vs : List Value) (K : Heap → Option R) : Option R :=
  match a with
  | some ⟨b, o, _⟩ => match hblk H b with
    | some B => bif B.ro then none else if o + vs.length ≤ B.cells.length then (bif vs.all oneC then K (hset H b (some ⟨splice B.cells o vs, false, B.sz⟩)) else none) else none
    | none => none
  | none => none
def hst1 (H : Heap) (a : Option Addr) (v : Value) (K : Heap → Option R) : Option R :=
  match a with
  | some ⟨b, o, _⟩ => match hblk H b with
    | some B => bif B.ro then none else if o < B.cells.length then K (hset H b (some ⟨B.cells.set o v, false, B.sz⟩)) else none
    | none => none
  | none => none
/-- The cells that a slice shows. -/
def hcells (H : Heap) (p : Option Addr) (n : Nat) : Option (List Value) :=
  if n = 0 then some [] else
  match p with
  | some ⟨b, o, _⟩ => match hblk H b with
    | some B => if o + n ≤ B.cells.length then some ((B.cells.drop o).take n) else none
    | none => none
  | none => none
def inBound (n : Int) (c : Nat) : Bool := decide (0 ≤ n ∧ n ≤ c)
/-- An address without a spot. -/
def plainP : Option Addr → Bool
  | some ⟨_, _, none⟩ => true
  | _ => false
/-- x[lo:hi:mx] of a slice. -/
def hslc (size : Nat) (p : Option Addr) (l c : Nat) (lo hi mx : Option Int) (K : Option Addr → Nat → Nat → Option R) : Option R :=
  let m : Int := mx.getD c
  let h : Int := hi.getD l
  let lw : Int := lo.getD 0
  if 0 ≤ lw ∧ lw ≤ h ∧ h ≤ m ∧ (if c = unk then plainP p = true ∧ ((mx.isSome = true ∧ m ≤ l ∧ l < unk) ∨ (mx.isSome = false ∧ h ≤ l)) else m ≤ c ∧ c < unk) then
    (if c = unk ∧ mx.isSome = false then
      (if lw = 0 then K p h.toNat unk
       else if lw < l ∧ 0 < size then K (match p with | some ⟨b, o, _⟩ => some ⟨b, o + lw.toNat * size, none⟩ | none => none) (h.toNat - lw.toNat) unk
       else if lw = l then K (some ⟨0, 1, some 0⟩) 0 unk
       else none)
     else
      (if m = lw then K p (h.toNat - lw.toNat) (m.toNat - lw.toNat)
       else K (match p with | some ⟨b, o, s⟩ => (if lw = 0 then some ⟨b, o, s⟩ else some ⟨b, o + lw.toNat * size, none⟩) | none => none) (h.toNat - lw.toNat) (m.toNat - lw.toNat)))
  else none
/-- x[lo:hi:mx] of an array behind a pointer. -/
def hsla (size len : Nat) (p : Option Addr) (lo hi mx : Option Int) (K : Option Addr → Nat → Nat → Option R) : Option R :=
  match p with
  | some a => bif Nat.beq len unk then none else hslc size (some a) len len lo hi mx K
  | none => none
/-- A block of these cells. -/
def hal (H : Heap) (cells : List Value) (K : Option Addr → Heap → Option R) : Option R := K (some ⟨H.length, 0, none⟩) (H ++ [some ⟨cells, false, 0⟩])
def imx (a b : Int) : Int := if b > a then b else a
def imn (a b : Int) : Int := if b < a then b else a
def mkCells (zero : List Value) : Nat → List Value
  | 0 => []
  | n + 1 => zero ++ mkCells zero n
def hmk (zero : List Value) (bytes : Nat) (H : Heap) (l c : Int) (K : Option Addr → Nat → Nat → Heap → Option R) : Option R :=
  if 0 ≤ l ∧ l ≤ c ∧ c * bytes ≤ 140737488355328 ∧ c ≤ 140737488355328 then
    K (some ⟨H.length, 0, none⟩) l.toNat c.toNat (H ++ [some ⟨mkCells zero c.toNat, false, 0⟩])
  else none
def hfill (zero : List Value) : List (Nat × Nat × Value) → Option (List Value)
  | [] => some zero
  | (o, n, v) :: ps => if v.cells.size = n ∧ o + n ≤ zero.length then hfill (splice zero o v.cells.toList) ps else none
/-- append(s, x...): within the known capacity in place, else a new block whose capacity is not known; the old block is given up if its capacity was not known. -/
def happ (size bytes : Nat) (H : Heap) (p : Option Addr) (l c : Nat) (xs : List Value) (n : Nat) (K : Option Addr → Nat → Nat → Heap → Option R) : Option R :=
  if c = unk then
    match p with
    | some ⟨b, o, _⟩ => match hblk H b with
      | some B => bif B.ro then none else
        if o = 0 ∧ l * size = B.cells.length ∧ B.sz = size ∧ (l + n) * bytes ≤ 35184372088832 then
          K (some ⟨H.length, 0, none⟩) (l + n) unk (hset H b none ++ [some ⟨B.cells ++ xs, false, size⟩])
        else none
      | none => none
    | none => none
  else if l + n ≤ c then
    (if n = 0 then K p l c H else hst H (pad p (l * size)) xs fun H' => K p (l + n) c H')
  else if (l + n) * bytes ≤ 35184372088832 then
    match hcells H p (l * size) with
    | some old => K (some ⟨H.length, 0, none⟩) (l + n) unk (H ++ [some ⟨old ++ xs, false, size⟩])
    | none => none
  else none
/-- append where nothing is there to be written into: always a new block. -/
def hapn (size bytes : Nat) (H : Heap) (p : Option Addr) (l c : Nat) (xs : List Value) (n : Nat) (K : Option Addr → Nat → Nat → Heap → Option R) : Option R :=
  if c = unk then none
  else if n = 0 then (if l ≤ c then K p l c H else none)
  else if l + n ≤ c then none
  else if (l + n) * bytes ≤ 35184372088832 then
    match hcells H p (l * size) with
    | some old => K (some ⟨H.length, 0, none⟩) (l + n) unk (H ++ [some ⟨old ++ xs, false, size⟩])
    | none => none
  else none
def happS (size bytes : Nat) (H : Heap) (p : Option Addr) (l c : Nat) (q : Option Addr) (n : Nat) (K : Option Addr → Nat → Nat → Heap → Option R) : Option R :=
  match hcells H q (n * size) with
  | some xs => happ size bytes H p l c xs n K
  | none => none
def hapnS (size bytes : Nat) (H : Heap) (p : Option Addr) (l c : Nat) (q : Option Addr) (n : Nat) (K : Option Addr → Nat → Nat → Heap → Option R) : Option R :=
  match hcells H q (n * size) with
  | some xs => hapn size bytes H p l c xs n K
  | none => none
/-- Bytes, as numbers. -/
def nums : List Value → Option (List Int)
  | [] => some []
  | .int .u8 n :: vs => match nums vs with
    | some xs => some (n :: xs)
    | none => none
  | _ => none
/-- The bytes that a slice shows, as a string. -/
def hb2s (H : Heap) (p : Option Addr) (l : Nat) (K : ByteArray → Option R) : Option R :=
  match hcells H p l with
  | some cs => match nums cs with
    | some xs => K (strOfNums xs)
    | none => none
  | none => none
/-- A byte of a string. -/
def hidt (s : ByteArray) (n : Int) (K : Int → Option R) : Option R :=
  match (if 0 ≤ n then s[n.toNat]? else none) with
  | some b => K b.toNat
  | none => none
/-- A row of bytes that becomes one of a constant string: it is written no more. -/
def hcvs (H : Heap) (p : Addr) (l : Nat) (K : Heap → Option R) : Option R :=
  if l = 0 then none else
    match hblk H p.block with
    | some B => bif B.ro then none else K (hset H p.block (some ⟨B.cells, true, B.sz⟩))
    | none => none
def hclr (zero : List Value) (H : Heap) (p : Option Addr) (l : Nat) (K : Heap → Option R) : Option R := if l = 0 then K H else hst H p (mkCells zero l) K
def hcpy (H : Heap) (p : Option Addr) (xs : Option (List Value)) (n : Nat) (K : Int → Heap → Option R) : Option R :=
  match xs with
  | some xs => if n = 0 then K 0 H else hst H p xs fun H' => K n H'
  | none => none
end helpers
abbrev Tab (R : Type) := Nat → List Value → Heap → (Value → Heap → Option R) → Option R
abbrev JTab (R : Type) := Nat → List Value → Heap → (Xit → Env → Heap → Option R) → Option R
section eval
variable {R : Type}
def allOk : List Value → Bool
  | [] => true
  | v :: vs => bif okv v then allOk vs else false
def gxs (e : Env) : List X → List Value
  | [] => []
  | x :: xs => gx e x :: gxs e xs
def gps (e : Env) : List (Nat × Nat × X) → List (Nat × Nat × Value)
  | [] => []
  | (o, n, x) :: ps => (o, n, gx e x) :: gps e ps
def eqCells (cs ds : List Value) : List (Nat × Nat) → Bool → (Bool → Option R) → Option R
  | [], acc, K => K acc
  | (o, k) :: os, acc, K =>
    match k, cs[o]?, ds[o]? with
    | 0, some (.int k a), some (.int k' b) => bif ikeq k k' then eqCells cs ds os (acc && (a == b)) K else none
    | 1, some (.bool a), some (.bool b) => eqCells cs ds os (acc && (a == b)) K
    | 2, some (.string a), some (.string b) => eqCells cs ds os (acc && (a == b)) K
    | _, _, _ => none
def ptrFrees : List Value → Bool
  | [] => true
  | v :: vs => bif ptrFree v then ptrFrees vs else false
/-- Blocks made by the region's operations that an operation does not stand behind, out of sight. -/
def hideH (H : Heap) (made : List (Nat × Nat × Nat)) : List Nat → Heap
  | [] => H
  | i :: hs => hideH (made.foldl (fun H m => bif Nat.beq m.1 i then H.mapIdx (fun j x => bif Nat.ble m.2.1 j && Nat.blt j m.2.2 then none else x) else H) H) made hs
/-- Whether an address lies in a read-only block. -/
def isRo (H : Heap) (a : Option Addr) : Bool :=
  match a with
  | some ⟨b, _, _⟩ => match hblk H b with
    | some B => B.ro
    | none => false
  | none => false
def optInt (e : Env) : Option X → Option (Option Int)
  | none => some none
  | some x => match gx e x with
    | .int _ n => some (some n)
    | _ => none
def evOp (C : Tab R) (made : List (Nat × Nat × Nat)) (o : IOp) (e : Env) (H : Heap) (K : Value → Heap → Option R) : Option R :=
  match o with
  | .mov x => K (gx e x) H
  | .pick c a b => match gx e c with
    | .bool t => bif t then K (gx e a) H else K (gx e b) H
    | _ => none
  | .bin op k x y => match gx e x, gx e y with
    | .int k1 a, .int k2 b => bif ikeq k k1 && (isShift op || (isArith op && ikeq k k2)) then hbin op k a b fun n => K (.int k n) H else none
    | _, _ => none
  | .cmp op x y => match gx e x, gx e y with
    | .int k1 a, .int k2 b => bif ikeq k1 k2 && isCmp op then K (.bool (hcmp op a b)) H else none
    | _, _ => none
  | .eqb x y neg => match gx e x, gx e y with
    | .bool a, .bool b => K (.bool (bif neg then !(a == b) else (a == b))) H
    | _, _ => none
  | .eqnil x neg kd => match gx e x, kd with
    | .pointer p, 0 => K (.bool (bif neg then p.isSome else p.isNone)) H
    | .slice p _ _, 1 => K (.bool (bif neg then p.isSome else p.isNone)) H
    | .nilFunc, 2 => K (.bool (!neg)) H
    | .func _ _ _, 2 => K (.bool neg) H
    | _, _ => none
  | .eqs offs x y neg => match gx e x, gx e y with
    | .agg cs, .agg ds => eqCells cs.toList ds.toList offs true fun b => K (.bool (bif neg then !b else b)) H
    | _, _ => none
  | .lnot x => match gx e x with
    | .bool b => K (.bool !b) H
    | _ => none
  | .neg k x => match gx e x with
    | .int k1 a => bif ikeq k k1 then K (.int k (k.wrap (0 - a))) H else none
    | _ => none
  | .ld k x => match gx e x with
    | .pointer a => match k with
      | .sc s => ldS s H a fun v => K v H
      | .agg ks => ldN ks H a 0 fun vs => K (.agg ⟨vs⟩) H
    | _ => none
  | .ldr k x => match gx e x with
    | .pointer a => bif isRo H a then (match k with
      | .sc s => ldS s H a fun v => K v H
      | .agg ks => ldN ks H a 0 fun vs => K (.agg ⟨vs⟩) H) else none
    | _ => none
  | .st n x v => match gx e x with
    | .pointer a => match gx e v with
      | .agg cs => bif Nat.beq cs.toList.length n then hst H a cs.toList fun H' => K undef H' else none
      | .tuple _ => none
      | u => bif Nat.beq n 1 then hst1 H a u fun H' => K undef H' else none
    | _ => none
  | .nilc x => match gx e x with
    | .pointer a => hnil a fun a => K (.pointer a) H
    | .func (.func f) fs cs => K (.func (.func f) fs cs) H
    | _ => none
  | .fad off x => match gx e x with
    | .pointer a => hfad off a fun a => K (.pointer a) H
    | _ => none
  | .ids size x i => match gx e x, gx e i with
    | .slice p l _, .int _ n => hidx p l n size fun a => K (.pointer a) H
    | _, _ => none
  | .ida len size x i => match gx e x, gx e i with
    | .pointer p, .int _ n => hidx p len n size fun a => K (.pointer a) H
    | _, _ => none
  | .idv len size k x i => match gx e x, gx e i with
    | .agg cs, .int _ n => if 0 ≤ n ∧ n < len then
        (match k with
         | .sc s => (match cs.toList[n.toNat * size]? with | some v => asS s v fun v => K v H | none => none)
         | .agg ks => asN ks ((cs.toList.drop (n.toNat * size)).take size) fun vs => K (.agg ⟨vs⟩) H)
      else none
    | _, _ => none
  | .fld off size k x => match gx e x with
    | .agg cs => match k with
      | .sc s => (match cs.toList[off]? with | some v => asS s v fun v => K v H | none => none)
      | .agg ks => asN ks ((cs.toList.drop off).take size) fun vs => K (.agg ⟨vs⟩) H
    | _ => none
  | .ext i x => match gx e x with
    | .tuple cs => match cs.toList[i]? with
      | some v => bif okv v then K v H else none
      | none => none
    | _ => none
  | .alc zero => K (.pointer (some ⟨H.length, 0, none⟩)) (H ++ [some ⟨zero, false, 0⟩])
  | .box x => bif okv (gx e x) && (gx e x).cells.toList.all oneC then K (.pointer (some ⟨H.length, 0, none⟩)) (H ++ [some ⟨(gx e x).cells.toList, false, 0⟩]) else none
  | .bld zero parts => bif (gps e parts).all (fun p => okv p.2.2) then
      (match hfill zero (gps e parts) with | some cs => K (.agg ⟨cs⟩) H | none => none) else none
  | .bls n cells parts => bif (gps e parts).all (fun p => okv p.2.2) then
      (match hfill cells (gps e parts) with | some cs => bif cs.all oneC then K (.slice (some ⟨H.length, 0, none⟩) n n) (H ++ [some ⟨cs, false, 0⟩]) else none | none => none) else none
  | .mks zero bytes l c => match gx e l, gx e c with
    | .int _ l, .int _ c => hmk zero bytes H l c fun p l c H' => K (.slice p l c) H'
    | _, _ => none
  | .slc size x lo hi mx => match gx e x with
    | .slice p l c => match optInt e lo, optInt e hi, optInt e mx with
      | some lo, some hi, some mx => hslc size p l c lo hi mx fun p l c => K (.slice p l c) H
      | _, _, _ => none
    | _ => none
  | .sla len size x lo hi mx => match gx e x with
    | .pointer p => match optInt e lo, optInt e hi, optInt e mx with
      | some lo, some hi, some mx => hsla size len p lo hi mx fun p l c => K (.slice p l c) H
      | _, _, _ => none
    | _ => none
  | .cnv k x => match gx e x with
    | .int _ n => K (.int k (k.wrap n)) H
    | _ => none
  | .len str x => match gx e x, str with
    | .slice _ l _, false => K (.int .i64 l) H
    | .string s, true => K (.int .i64 s.size) H
    | _, _ => none
  | .cst n _ => K (.int .i64 n) H
  | .mx x y => match gx e x, gx e y with
    | .int k a, .int k' b => bif ikeq k k' then K (.int k (if b > a then b else a)) H else none
    | _, _ => none
  | .mn x y => match gx e x, gx e y with
    | .int k a, .int k' b => bif ikeq k k' then K (.int k (if b < a then b else a)) H else none
    | _, _ => none
  | .app zero bytes s x => match gx e s, gx e x with
    | .slice p l c, .slice q n _ => happS zero.length bytes H p l c q n fun p l c H' => K (.slice p l c) H'
    | _, _ => none
  | .apn zero bytes s x => match gx e s, gx e x with
    | .slice p l c, .slice q n _ => hapnS zero.length bytes H p l c q n fun p l c H' => K (.slice p l c) H'
    | _, _ => none
  | .cpy size d s => match gx e d, gx e s with
    | .slice p l _, .slice q n _ => hcpy H p (hcells H q (min n l * size)) (min n l) fun n H' => K (.int .i64 n) H'
    | _, _ => none
  | .clr zero s => match gx e s with
    | .slice p l _ => hclr zero H p l fun H' => K undef H'
    | _ => none
  | .call f args k => bif allOk (gxs e args) then C f (gxs e args) H fun v H' => asR k v fun v => K v H' else none
  | .calp f args k => bif allOk (gxs e args) then C f (gxs e args) (roH H) fun v _ => bif ptrFree v then asR k v fun v => K v H else none else none
  | .calf f args hide k => bif allOk (gxs e args) then C f (gxs e args) (roH (hideH H made hide)) fun v H' => asR k v fun v => K v (H ++ H'.drop H.length) else none
  | .calv g args k => match gx e g with
    | .func (.func f) fs cs => bif allOk (fs.toList ++ gxs e args ++ cs.toList) then C f (fs.toList ++ gxs e args ++ cs.toList) H fun v H' => asR k v fun v => K v H' else none
    | _ => none
  | .calq g args k => match gx e g with
    | .func (.func f) fs cs => bif allOk (fs.toList ++ gxs e args ++ cs.toList) then C f (fs.toList ++ gxs e args ++ cs.toList) (roH H) fun v _ => bif ptrFree v then asR k v fun v => K v H else none else none
    | _ => none
  | .cvs s => match gx e s with
    | .slice (some p) l c => hcvs H p l fun H' => K (.slice (some p) l c) H'
    | _ => none
  | .b2s x => match gx e x with
    | .slice p l _ => hb2s H p l fun s => K (.string s) H
    | _ => none
  | .eqT x y neg => match gx e x, gx e y with
    | .string a, .string b => K (.bool (bif neg then !(a == b) else (a == b))) H
    | _, _ => none
  | .idt x i => match gx e x, gx e i with
    | .string s, .int _ n => hidt s n fun m => K (.int .u8 m) H
    | _, _ => none
  | .mkf f caps => bif allOk (gxs e caps) then K (.func (.func f) #[] ⟨gxs e caps⟩) H else none
def eput (d : Option Nat) (v : Value) (e : Env) : Env :=
  match d with
  | some d => (d, v) :: e
  | none => e
def isCreator : IOp → Bool
  | .alc _ | .box _ | .bls .. | .mks .. | .apn .. | .calf .. => true
  | _ => false
/-- A load that may be met at any time reads the region's first heap. -/
def evO (C : Tab R) (H0 : Heap) (made : List (Nat × Nat × Nat)) (o : IOp) (e : Env) (H : Heap) (K : Value → Heap → Option R) : Option R :=
  match o with
  | .ldr k x => evOp C made (.ldr k x) e H0 fun v _ => K v H
  | o => evOp C made o e H K
/-- The operations of a region in the text's order. -/
def evOps (C : Tab R) (H0 : Heap) : List IOper → Nat → List (Nat × Nat × Nat) → Env → Heap → (Env → Heap → Option R) → Option R
  | [], _, _, e, H, K => K e H
  | o :: os, i, made, e, H, K =>
    match o.guard with
    | none => evO C H0 made o.op e H fun v H' => evOps C H0 os (i + 1) (bif isCreator o.op then (i, H.length, H'.length) :: made else made) (eput o.dst v e) H' K
    | some (g, want) => match eget e g with
      | .bool t => bif t
          then (bif want then evO C H0 made o.op ((g, .bool true) :: e) H fun v H' => evOps C H0 os (i + 1) (bif isCreator o.op then (i, H.length, H'.length) :: made else made) (eput o.dst v ((g, .bool true) :: e)) H' K
            else evOps C H0 os (i + 1) made (eput o.dst skp ((g, .bool true) :: e)) H K)
          else (bif want then evOps C H0 os (i + 1) made (eput o.dst skp ((g, .bool false) :: e)) H K
            else evO C H0 made o.op ((g, .bool false) :: e) H fun v H' => evOps C H0 os (i + 1) (bif isCreator o.op then (i, H.length, H'.length) :: made else made) (eput o.dst v ((g, .bool false) :: e)) H' K)
      | .tuple cs => bif Nat.beq cs.toList.length 1 then evOps C H0 os (i + 1) made (eput o.dst skp e) H K else none
      | _ => none
def clean (e : Env) : List Nat → Env
  | [] => []
  | t :: ts => (t, eget e t) :: clean e ts
/-- A block that is written no more is read-only from here on. -/
def hfrz (H : Heap) (a : Option Addr) (K : Heap → Option R) : Option R :=
  match a with
  | some ⟨b, _, _⟩ => match hblk H b with
    | some B => K (hset H b (some ⟨B.cells, true, B.sz⟩))
    | none => none
  | none => none
def evJ (C : Tab R) (J : JTab R) : IC → Env → Heap → (Xit → Env → Heap → Option R) → Option R
  | .skip, e, H, K => K .normal e H
  | .reg ops live, e, H, K => evOps C H ops 0 [] e H fun e H => K .normal (clean e live) H
  | .seq a b, e, H, K => evJ C J a e H fun x e H => match x with
    | .normal => evJ C J b e H K
    | x => K x e H
  | .cond x a b, e, H, K => match gx e x with
    | .bool t => bif t then evJ C J a e H K else evJ C J b e H K
    | _ => none
  | .block id b, e, H, K => evJ C J b e H fun x e H => match x with
    | .exit id' => bif Nat.beq id' id then K .normal e H else K (.exit id') e H
    | x => K x e H
  | .loop _, _, _, _ => none
  | .exit id, e, H, K => K (.exit id) e H
  | .ret, e, H, K => K .ret e H
  | .opq i ls _, e, H, K => J i ((clean e ls).map (·.2)) H K
  | .frz t c, e, H, K => match eget e t with
    | .pointer a => hfrz H a fun H => evJ C J c e H K
    | _ => none
inductive RV where
  | t (n : Nat)
  | cell (n : Nat) (k : VK)
def evRV (e : Env) (H : Heap) (r : RV) (K : Value → Option R) : Option R :=
  match r with
  | .t n => bif okv (eget e n) then K (eget e n) else none
  | .cell n k => match eget e n with
    | .pointer a => match k with
      | .sc s => ldS s H a fun v => bif okv v then K v else none
      | .agg ks => ldN ks H a 0 fun vs => K (.agg ⟨vs⟩)
    | _ => none
def evRVs (e : Env) (H : Heap) : List RV → (List Value → Option R) → Option R
  | [], K => K []
  | r :: rs, K => evRV e H r fun v => evRVs e H rs fun vs => K (v :: vs)
def tupled : List Value → Value
  | [v] => v
  | vs => .tuple ⟨vs⟩
structure IFn where
  nt : Nat
  res : List RV
  body : IC
def zipT : Nat → List Value → Env
  | _, [] => []
  | i, v :: vs => (i, v) :: zipT (i + 1) vs
def evF (C : Tab R) (J : JTab R) (fn : IFn) (args : List Value) (H : Heap) (K : Value → Heap → Option R) : Option R :=
  evJ C J fn.body (zipT 0 args) H fun x e H => match x with
    | .exit _ => none
    | _ => evRVs e H fn.res fun vs => K (tupled vs) H
end eval
end Go.Proofs.Ytjajknghcbpblaa.FW
