/- QsDecodes, part 0. -/
import Derived.Test.YtmanlfonppfhaaaProg
import Derived.Calls
import Derived.Orders
import Derived.Laws.BytesArg
import Derived.Below
import Derived.Laws.Sem
import Derived.Laws.Cells
import Derived.Laws.CopyRow
import Derived.Laws.Alloc2
import Derived.Laws.StructEq
import Derived.Laws.Cover3
import Derived.Laws.Pointers
import Derived.Laws.Rows
import Derived.Laws.Append
import Derived.IntWalk
import Derived.Laws.Tables
import Derived.LoopN
import Derived.ProofKit
import Derived.Carry
import Derived.Deep.Slices
set_option linter.unusedVariables false
set_option linter.unusedSimpArgs false
namespace Go.Proofs.Ytmanlfonppfhaaa.FW
def unk:Nat:=1180591620717411303424
def skp:Value:= .tuple #[.tuple #[]]
structure Blk where
 cells:List Value
 ro:Bool
 sz:Nat:=0
abbrev Heap:=List (Option Blk)
def hblk:Heap->Nat->Option Blk
 | [],_=> none
 |x::_,0=> x
 |_::l,n+1=> hblk l n
def hcell (H:Heap) (b o:Nat):Option Value:=
 match hblk H b with
 |some B=> B.cells[o]?
 |none=> none
def hset:Heap->Nat->Option Blk->Heap
 | [],_,_=> []
 |_::l,0,y=> y::l
 |x::l,n+1,y=> x::hset l n y
def roH (H:Heap):Heap:=H.map λ x=> x.map λ B=> ⟨B.cells,true,B.sz⟩
abbrev Env:=List (Nat×Value)
def eget:Env->Nat->Value
 | [],_=> undef
 |(t,v)::e,n=> bif Nat.beq t n then v else eget e n
inductive X where
 |t (n:Nat)
 |c (v:Value)
def gx (e:Env):X->Value
 | .t n=> eget e n
 | .c v=> v
inductive SK where
 |int (k:IntKind)|bool|ptr|slc|str|fn|any
inductive VK where
 |sc (s:SK)|agg (l:List SK)
inductive RK where
 |none|one (v:VK)|tup (l:List VK)
def ikeq:IntKind->IntKind->Bool
 | .i8, .i8| .i16, .i16| .i32, .i32| .i64, .i64| .u8, .u8| .u16, .u16| .u32, .u32| .u64, .u64=> true
 |_,_=> false
def okv:Value->Bool
 | .tuple _=> false
 |_=> true
def ptrFreeC:Value->Bool
 | .bool _| .int _ _| .float _ _| .string _| .pointer none| .slice none _ _| .nilFunc| .nilIface=> true
 |_=> false
def ptrFree:Value->Bool
 | .agg cs=> cs.toList.all ptrFreeC
 | .tuple cs=> cs.toList.all fun| .agg ds=> ds.toList.all ptrFreeC|v=> ptrFreeC v
 |v=> ptrFreeC v
inductive IOp where
 |mov (x:X)
 |pick (c a b:X)
 |bin (op:BinOp) (k:IntKind) (x y:X)
 |cmp (op:BinOp) (x y:X)
 |eqb (x y:X) (neg:Bool)
 |eqnil (x:X) (neg:Bool) (kd:Nat)
 |eqs (offs:List (Nat×Nat)) (x y:X) (neg:Bool)
 |lnot (x:X)
 |neg (k:IntKind) (x:X)
 |ld (k:VK) (a:X)
 |ldr (k:VK) (a:X)
 |st (n:Nat) (a v:X)
 |nilc (x:X)
 |fad (off:Nat) (x:X)
 |ids (size:Nat) (x i:X)
 |ida (len size:Nat) (x i:X)
 |idv (len size:Nat) (k:VK) (x i:X)
 |fld (off size:Nat) (k:VK) (x:X)
 |ext (i:Nat) (x:X)
 |alc (zero:List Value)
 |box (x:X)
 |bld (zero:List Value) (parts:List (Nat×Nat×X))
 |bls (n:Nat) (cells:List Value) (parts:List (Nat×Nat×X))
 |mks (zero:List Value) (bytes:Nat) (l c:X)
 |slc (size:Nat) (x:X) (lo hi mx:Option X)
 |sla (len size:Nat) (x:X) (lo hi mx:Option X)
 |cnv (k:IntKind) (x:X)
 |len (str:Bool) (x:X)
 |cst (n:Nat) (x:X)
 |mx (x y:X)
 |mn (x y:X)
 |app (zero:List Value) (bytes:Nat) (s x:X)
 |apn (zero:List Value) (bytes:Nat) (s x:X)
 |cpy (size:Nat) (d s:X)
 |clr (zero:List Value) (s:X)
 |cvs (s:X)
 |call (f:Nat) (args:List X) (k:RK)
 |calp (f:Nat) (args:List X) (k:RK)
 |calf (f:Nat) (args:List X) (hide:List Nat) (k:RK)
 |calv (g:X) (args:List X) (k:RK)
 |calq (g:X) (args:List X) (k:RK)
 |mkf (f:Nat) (caps:List X)
 |b2s (x:X)
 |eqT (x y:X) (neg:Bool)
 |idt (x i:X)
structure IOper where
 dst:Option Nat
 op:IOp
 guard:Option (Nat×Bool)
inductive IC where
 |skip
 |reg (ops:List IOper) (live:List Nat)
 |seq (a b:IC)
 |cond (x:X) (a b:IC)
 |block (id:Nat) (b:IC)
 |loop (b:IC)
 |exit (id:Nat)
 |ret
 |opq (i:Nat) (ls:List Nat) (c:IC)
 |frz (t:Nat) (c:IC)
structure Out where
 on:List Nat
 oe:List (Nat×List Nat)
 orr:List Nat
def lkp:List (Nat×List Nat)->Nat->List Nat
 | [],_=> []
 |(i,l)::ls,n=> bif Nat.beq i n then l else lkp ls n
inductive Xit where
 |normal
 |exit (id:Nat)
 |ret
def Out.of (o:Out):Xit->List Nat
 | .normal=> o.on
 | .exit i=> lkp o.oe i
 | .ret=> o.orr
section helpers
variable {R:Type}
def hbin (op:BinOp) (k:IntKind) (a b:Int) (K:Int->Option R):Option R:=
 match op with
 | .add=> K (k.wrap (a+b))
 | .sub=> K (k.wrap (a - b))
 | .mul=> K (k.wrap (a * b))
 | .quo=> if b=0 then none else K (k.wrap (a.tdiv b))
 | .rem=> if b=0 then none else K (a.tmod b)
 | .shl=> if b < 0 then none else K (k.wrap (a * 2 ^ (min b.toNat k.bits)))
 | .shr=> if b < 0 then none else K (a.fdiv (2 ^ (min b.toNat k.bits)))
 | .and=> K (k.wrap (BitVec.ofInt k.bits a &&& BitVec.ofInt k.bits b).toNat)
 | .or=> K (k.wrap (BitVec.ofInt k.bits a|||BitVec.ofInt k.bits b).toNat)
 | .xor=> K (k.wrap (BitVec.ofInt k.bits a ^^^ BitVec.ofInt k.bits b).toNat)
 | .andNot=> K (k.wrap (BitVec.ofInt k.bits a &&& ~~~ BitVec.ofInt k.bits b).toNat)
 |_=> none
def isArith:BinOp->Bool
 | .add| .sub| .mul| .quo| .rem| .and| .or| .xor| .andNot=> true
 |_=> false
def isShift:BinOp->Bool
 | .shl| .shr=> true
 |_=> false
def hcmp (op:BinOp) (a b:Int):Bool:=
 match op with
 | .eql=> a==b
 | .neq=> a !=b
 | .lss=> a < b
 | .leq=> a<=b
 | .gtr=> a > b
 | .geq=> a≥b
 |_=> false
def isCmp:BinOp->Bool
 | .eql| .neq| .lss| .leq| .gtr| .geq=> true
 |_=> false
def ldI (k:IntKind) (H:Heap) (a:Option Addr) (K:Int->Option R):Option R:=
 match a with
 |some ⟨b,o,_⟩=> match hcell H b o with
  |some (.int k' n)=> bif ikeq k k' then K n else none
  |_=> none
 |none=> none
def ldB (H:Heap) (a:Option Addr) (K:Bool->Option R):Option R:=
 match a with
 |some ⟨b,o,_⟩=> match hcell H b o with
  |some (.bool n)=> K n
  |_=> none
 |none=> none
def ldP (H:Heap) (a:Option Addr) (K:Option Addr->Option R):Option R:=
 match a with
 |some ⟨b,o,_⟩=> match hcell H b o with
  |some (.pointer n)=> K n
  |_=> none
 |none=> none
def ldL (H:Heap) (a:Option Addr) (K:Option Addr->Nat->Nat->Option R):Option R:=
 match a with
 |some ⟨b,o,_⟩=> match hcell H b o with
  |some (.slice p l c)=> K p l c
  |_=> none
 |none=> none
def ldT (H:Heap) (a:Option Addr) (K:ByteArray->Option R):Option R:=
 match a with
 |some ⟨b,o,_⟩=> match hcell H b o with
  |some (.string s)=> K s
  |_=> none
 |none=> none
def ldV (H:Heap) (a:Option Addr) (K:Value->Option R):Option R:=
 match a with
 |some ⟨b,o,_⟩=> match hcell H b o with
  |some v=> K v
  |_=> none
 |none=> none
def ldS (s:SK) (H:Heap) (a:Option Addr) (K:Value->Option R):Option R:=
 match s with
 | .int k=> ldI k H a λ n=> K (.int k n)
 | .bool=> ldB H a λ b=> K (.bool b)
 | .ptr=> ldP H a λ p=> K (.pointer p)
 | .slc=> ldL H a λ p l c=> K (.slice p l c)
 | .str=> ldT H a λ s=> K (.string s)
 | .fn| .any=> ldV H a K
def pad (a:Option Addr) (i:Nat):Option Addr:=
 match a with
 |some ⟨b,o,_⟩=> some ⟨b,o+i,none⟩
 |none=> none
def ldN:List SK->Heap->Option Addr->Nat->(List Value->Option R)->Option R
 | [],_,_,_,K=> K []
 |s::ks,H,a,i,K=> ldS s H (pad a i) λ v=> ldN ks H a (i+1) λ vs=> K (v::vs)
def asS (s:SK) (v:Value) (K:Value->Option R):Option R:=
 match s,v with
 | .int k, .int k' n=> bif ikeq k k' then K (.int k n) else none
 | .bool, .bool b=> K (.bool b)
 | .ptr, .pointer p=> K (.pointer p)
 | .slc, .slice p l c=> K (.slice p l c)
 | .str, .string s=> K (.string s)
 | .fn,v=> K v
 | .any,v=> K v
 |_,_=> none
def asN:List SK->List Value->(List Value->Option R)->Option R
 | [], [],K=> K []
 |s::ks,v::vs,K=> asS s v λ v=> asN ks vs λ vs=> K (v::vs)
 |_,_,_=> none
def asK (k:VK) (v:Value) (K:Value->Option R):Option R:=
 match k,v with
 | .sc s,v=> asS s v K
 | .agg ks, .agg cs=> asN ks cs.toList λ vs=> K (.agg ⟨vs⟩)
 |_,_=> none
def asT:List VK->List Value->(List Value->Option R)->Option R
 | [], [],K=> K []
 |k::ks,v::vs,K=> asK k v λ v=> asT ks vs λ vs=> K (v::vs)
 |_,_,_=> none
def asR (k:RK) (v:Value) (K:Value->Option R):Option R:=
 match k,v with
 | .none,_=> K undef
 | .one k,v=> asK k v K
 | .tup ks, .tuple cs=> asT ks cs.toList λ vs=> K (.tuple ⟨vs⟩)
 |_,_=> none
def hnil (a:Option Addr) (K:Option Addr->Option R):Option R:=
 match a with
 |some a=> K (some a)
 |none=> none
def hfad (off:Nat) (a:Option Addr) (K:Option Addr->Option R):Option R:=
 match a with
 |some ⟨b,o,_⟩=> K (some ⟨b,o+off,none⟩)
 |none=> none
def hidx (p:Option Addr) (l:Nat) (n:Int) (size:Nat) (K:Option Addr->Option R):Option R:=
 match p with
 |some ⟨b,o,_⟩=> if 0<=n/\n < l then K (some ⟨b,o+n.toNat * size,none⟩) else none
 |none=> none
def splice (l:List Value) (o:Nat) (vs:List Value):List Value:=l.take o++vs++l.drop (o+vs.length)
def oneC:Value->Bool
 | .agg _| .tuple _=> false
 |_=> true
def hst (H:Heap) (a:Option Addr) (vs:List Value) (K:Heap->Option R):Option R:=
 match a with
 |some ⟨b,o,_⟩=> match hblk H b with
  |some B=> bif B.ro then none else if o+vs.length<=B.cells.length then (bif vs.all oneC then K (hset H b (some ⟨splice B.cells o vs,false,B.sz⟩)) else none) else none
  |none=> none
 |none=> none
def hst1 (H:Heap) (a:Option Addr) (v:Value) (K:Heap->Option R):Option R:=
 match a with
 |some ⟨b,o,_⟩=> match hblk H b with
  |some B=> bif B.ro then none else if o < B.cells.length then K (hset H b (some ⟨B.cells.set o v,false,B.sz⟩)) else none
  |none=> none
 |none=> none
def hcells (H:Heap) (p:Option Addr) (n:Nat):Option (List Value):=
 if n=0 then some [] else
 match p with
 |some ⟨b,o,_⟩=> match hblk H b with
  |some B=> if o+n<=B.cells.length then some ((B.cells.drop o).take n) else none
  |none=> none
 |none=> none
def plainP:Option Addr->Bool
 |some ⟨_,_,none⟩=> true
 |_=> false
def hslc (size:Nat) (p:Option Addr) (l c:Nat) (lo hi mx:Option Int) (K:Option Addr->Nat->Nat->Option R):Option R:=
 let m:Int:=mx.getD c
 let h:Int:=hi.getD l
 let lw:Int:=lo.getD 0
 if 0<=lw/\lw<=h/\h<=m/\(if c=unk then plainP p=true/\((mx.isSome=true/\m<=l/\l < unk)∨(mx.isSome=false/\h<=l)) else m<=c/\c < unk) then
  (if c=unk/\mx.isSome=false then
   (if lw=0 then K p h.toNat unk
    else if lw < l/\0 < size then K (match p with|some ⟨b,o,_⟩=> some ⟨b,o+lw.toNat * size,none⟩|none=> none) (h.toNat - lw.toNat) unk
    else if lw=l then K (some ⟨0,1,some 0⟩) 0 unk
    else none)
   else
    (if m=lw then K p (h.toNat - lw.toNat) (m.toNat - lw.toNat)
     else K (match p with|some ⟨b,o,s⟩=> (if lw=0 then some ⟨b,o,s⟩ else some ⟨b,o+lw.toNat * size,none⟩)|none=> none) (h.toNat - lw.toNat) (m.toNat - lw.toNat)))
 else none
def hsla (size len:Nat) (p:Option Addr) (lo hi mx:Option Int) (K:Option Addr->Nat->Nat->Option R):Option R:=
 match p with
 |some a=> bif Nat.beq len unk then none else hslc size (some a) len len lo hi mx K
 |none=> none
def hal (H:Heap) (cells:List Value) (K:Option Addr->Heap->Option R):Option R:=K (some ⟨H.length,0,none⟩) (H++ [some ⟨cells,false,0⟩])
def imx (a b:Int):Int:=if b > a then b else a
def imn (a b:Int):Int:=if b < a then b else a
def mkCells (zero:List Value):Nat->List Value
 |0=> []
 |n+1=> zero++mkCells zero n
def hmk (zero:List Value) (bytes:Nat) (H:Heap) (l c:Int) (K:Option Addr->Nat->Nat->Heap->Option R):Option R:=
 if 0<=l/\l<=c/\c * bytes<=140737488355328/\c<=140737488355328 then
  K (some ⟨H.length,0,none⟩) l.toNat c.toNat (H++ [some ⟨mkCells zero c.toNat,false,0⟩])
 else none
def hfill (zero:List Value):List (Nat×Nat×Value)->Option (List Value)
 | []=> some zero
 |(o,n,v)::ps=> if v.cells.size=n/\o+n<=zero.length then hfill (splice zero o v.cells.toList) ps else none
def happ (size bytes:Nat) (H:Heap) (p:Option Addr) (l c:Nat) (xs:List Value) (n:Nat) (K:Option Addr->Nat->Nat->Heap->Option R):Option R:=
 if c=unk then
  match p with
  |some ⟨b,o,_⟩=> match hblk H b with
   |some B=> bif B.ro then none else
    if o=0/\l * size=B.cells.length/\B.sz=size/\(l+n) * bytes<=35184372088832 then
     K (some ⟨H.length,0,none⟩) (l+n) unk (hset H b none++ [some ⟨B.cells++xs,false,size⟩])
    else none
   |none=> none
  |none=> none
 else if l+n<=c then
  (if n=0 then K p l c H else hst H (pad p (l * size)) xs λ H'=> K p (l+n) c H')
 else if (l+n) * bytes<=35184372088832 then
  match hcells H p (l * size) with
  |some old=> K (some ⟨H.length,0,none⟩) (l+n) unk (H++ [some ⟨old++xs,false,size⟩])
  |none=> none
 else none
def hapn (size bytes:Nat) (H:Heap) (p:Option Addr) (l c:Nat) (xs:List Value) (n:Nat) (K:Option Addr->Nat->Nat->Heap->Option R):Option R:=
 if c=unk then none
 else if n=0 then (if l<=c then K p l c H else none)
 else if l+n<=c then none
 else if (l+n) * bytes<=35184372088832 then
  match hcells H p (l * size) with
  |some old=> K (some ⟨H.length,0,none⟩) (l+n) unk (H++ [some ⟨old++xs,false,size⟩])
  |none=> none
 else none
def happS (size bytes:Nat) (H:Heap) (p:Option Addr) (l c:Nat) (q:Option Addr) (n:Nat) (K:Option Addr->Nat->Nat->Heap->Option R):Option R:=
 match hcells H q (n * size) with
 |some xs=> happ size bytes H p l c xs n K
 |none=> none
def hapnS (size bytes:Nat) (H:Heap) (p:Option Addr) (l c:Nat) (q:Option Addr) (n:Nat) (K:Option Addr->Nat->Nat->Heap->Option R):Option R:=
 match hcells H q (n * size) with
 |some xs=> hapn size bytes H p l c xs n K
 |none=> none
def nums:List Value->Option (List Int)
 | []=> some []
 | .int .u8 n::vs=> match nums vs with
  |some xs=> some (n::xs)
  |none=> none
 |_=> none
def hb2s (H:Heap) (p:Option Addr) (l:Nat) (K:ByteArray->Option R):Option R:=
 match hcells H p l with
 |some cs=> match nums cs with
  |some xs=> K (strOfNums xs)
  |none=> none
 |none=> none
def hidt (s:ByteArray) (n:Int) (K:Int->Option R):Option R:=
 match (if 0<=n then s[n.toNat]? else none) with
 |some b=> K b.toNat
 |none=> none
def hcvs (H:Heap) (p:Addr) (l:Nat) (K:Heap->Option R):Option R:=
 if l=0 then none else
  match hblk H p.block with
  |some B=> bif B.ro then none else K (hset H p.block (some ⟨B.cells,true,B.sz⟩))
  |none=> none
def hclr (zero:List Value) (H:Heap) (p:Option Addr) (l:Nat) (K:Heap->Option R):Option R:=if l=0 then K H else hst H p (mkCells zero l) K
def hcpy (H:Heap) (p:Option Addr) (xs:Option (List Value)) (n:Nat) (K:Int->Heap->Option R):Option R:=
 match xs with
 |some xs=> if n=0 then K 0 H else hst H p xs λ H'=> K n H'
 |none=> none
end helpers
abbrev Tab (R:Type):=Nat->List Value->Heap->(Value->Heap->Option R)->Option R
abbrev JTab (R:Type):=Nat->List Value->Heap->(Xit->Env->Heap->Option R)->Option R
section eval
variable {R:Type}
def allOk:List Value->Bool
 | []=> true
 |v::vs=> bif okv v then allOk vs else false
def gxs (e:Env):List X->List Value
 | []=> []
 |x::xs=> gx e x::gxs e xs
def gps (e:Env):List (Nat×Nat×X)->List (Nat×Nat×Value)
 | []=> []
 |(o,n,x)::ps=> (o,n,gx e x)::gps e ps
def eqCells (cs ds:List Value):List (Nat×Nat)->Bool->(Bool->Option R)->Option R
 | [],acc,K=> K acc
 |(o,k)::os,acc,K=>
  match k,cs[o]?,ds[o]? with
  |0,some (.int k a),some (.int k' b)=> bif ikeq k k' then eqCells cs ds os (acc && (a==b)) K else none
  |1,some (.bool a),some (.bool b)=> eqCells cs ds os (acc && (a==b)) K
  |2,some (.string a),some (.string b)=> eqCells cs ds os (acc && (a==b)) K
  |_,_,_=> none
def hideH (H:Heap) (made:List (Nat×Nat×Nat)):List Nat->Heap
 | []=> H
 |i::hs=> hideH (made.foldl (λ H m=> bif Nat.beq m.1 i then H.mapIdx (λ j x=> bif Nat.ble m.2.1 j && Nat.blt j m.2.2 then none else x) else H) H) made hs
def isRo (H:Heap) (a:Option Addr):Bool:=
 match a with
 |some ⟨b,_,_⟩=> match hblk H b with
  |some B=> B.ro
  |none=> false
 |none=> false
def optInt (e:Env):Option X->Option (Option Int)
 |none=> some none
 |some x=> match gx e x with
  | .int _ n=> some (some n)
  |_=> none
def evOp (C:Tab R) (made:List (Nat×Nat×Nat)) (o:IOp) (e:Env) (H:Heap) (K:Value->Heap->Option R):Option R:=
 match o with
 | .mov x=> K (gx e x) H
 | .pick c a b=> match gx e c with
  | .bool t=> bif t then K (gx e a) H else K (gx e b) H
  |_=> none
 | .bin op k x y=> match gx e x,gx e y with
  | .int k1 a, .int k2 b=> bif ikeq k k1 && (isShift op||(isArith op && ikeq k k2)) then hbin op k a b λ n=> K (.int k n) H else none
  |_,_=> none
 | .cmp op x y=> match gx e x,gx e y with
  | .int k1 a, .int k2 b=> bif ikeq k1 k2 && isCmp op then K (.bool (hcmp op a b)) H else none
  |_,_=> none
 | .eqb x y neg=> match gx e x,gx e y with
  | .bool a, .bool b=> K (.bool (bif neg then !(a==b) else (a==b))) H
  |_,_=> none
 | .eqnil x neg kd=> match gx e x,kd with
  | .pointer p,0=> K (.bool (bif neg then p.isSome else p.isNone)) H
  | .slice p _ _,1=> K (.bool (bif neg then p.isSome else p.isNone)) H
  | .nilFunc,2=> K (.bool (!neg)) H
  | .func _ _ _,2=> K (.bool neg) H
  |_,_=> none
 | .eqs offs x y neg=> match gx e x,gx e y with
  | .agg cs, .agg ds=> eqCells cs.toList ds.toList offs true λ b=> K (.bool (bif neg then !b else b)) H
  |_,_=> none
 | .lnot x=> match gx e x with
  | .bool b=> K (.bool !b) H
  |_=> none
 | .neg k x=> match gx e x with
  | .int k1 a=> bif ikeq k k1 then K (.int k (k.wrap (0 - a))) H else none
  |_=> none
 | .ld k x=> match gx e x with
  | .pointer a=> match k with
   | .sc s=> ldS s H a λ v=> K v H
   | .agg ks=> ldN ks H a 0 λ vs=> K (.agg ⟨vs⟩) H
  |_=> none
 | .ldr k x=> match gx e x with
  | .pointer a=> bif isRo H a then (match k with
   | .sc s=> ldS s H a λ v=> K v H
   | .agg ks=> ldN ks H a 0 λ vs=> K (.agg ⟨vs⟩) H) else none
  |_=> none
 | .st n x v=> match gx e x with
  | .pointer a=> match gx e v with
   | .agg cs=> bif Nat.beq cs.toList.length n then hst H a cs.toList λ H'=> K undef H' else none
   | .tuple _=> none
   |u=> bif Nat.beq n 1 then hst1 H a u λ H'=> K undef H' else none
  |_=> none
 | .nilc x=> match gx e x with
  | .pointer a=> hnil a λ a=> K (.pointer a) H
  | .func (.func f) fs cs=> K (.func (.func f) fs cs) H
  |_=> none
 | .fad off x=> match gx e x with
  | .pointer a=> hfad off a λ a=> K (.pointer a) H
  |_=> none
 | .ids size x i=> match gx e x,gx e i with
  | .slice p l _, .int _ n=> hidx p l n size λ a=> K (.pointer a) H
  |_,_=> none
 | .ida len size x i=> match gx e x,gx e i with
  | .pointer p, .int _ n=> hidx p len n size λ a=> K (.pointer a) H
  |_,_=> none
 | .idv len size k x i=> match gx e x,gx e i with
  | .agg cs, .int _ n=> if 0<=n/\n < len then
   (match k with
    | .sc s=> (match cs.toList[n.toNat * size]? with|some v=> asS s v λ v=> K v H|none=> none)
    | .agg ks=> asN ks ((cs.toList.drop (n.toNat * size)).take size) λ vs=> K (.agg ⟨vs⟩) H)
   else none
  |_,_=> none
 | .fld off size k x=> match gx e x with
  | .agg cs=> match k with
   | .sc s=> (match cs.toList[off]? with|some v=> asS s v λ v=> K v H|none=> none)
   | .agg ks=> asN ks ((cs.toList.drop off).take size) λ vs=> K (.agg ⟨vs⟩) H
  |_=> none
 | .ext i x=> match gx e x with
  | .tuple cs=> match cs.toList[i]? with
   |some v=> bif okv v then K v H else none
   |none=> none
  |_=> none
 | .alc zero=> K (.pointer (some ⟨H.length,0,none⟩)) (H++ [some ⟨zero,false,0⟩])
 | .box x=> bif okv (gx e x) && (gx e x).cells.toList.all oneC then K (.pointer (some ⟨H.length,0,none⟩)) (H++ [some ⟨(gx e x).cells.toList,false,0⟩]) else none
 | .bld zero parts=> bif (gps e parts).all (λ p=> okv p.2.2) then
  (match hfill zero (gps e parts) with|some cs=> K (.agg ⟨cs⟩) H|none=> none) else none
 | .bls n cells parts=> bif (gps e parts).all (λ p=> okv p.2.2) then
  (match hfill cells (gps e parts) with|some cs=> bif cs.all oneC then K (.slice (some ⟨H.length,0,none⟩) n n) (H++ [some ⟨cs,false,0⟩]) else none|none=> none) else none
 | .mks zero bytes l c=> match gx e l,gx e c with
  | .int _ l, .int _ c=> hmk zero bytes H l c λ p l c H'=> K (.slice p l c) H'
  |_,_=> none
 | .slc size x lo hi mx=> match gx e x with
  | .slice p l c=> match optInt e lo,optInt e hi,optInt e mx with
   |some lo,some hi,some mx=> hslc size p l c lo hi mx λ p l c=> K (.slice p l c) H
   |_,_,_=> none
  |_=> none
 | .sla len size x lo hi mx=> match gx e x with
  | .pointer p=> match optInt e lo,optInt e hi,optInt e mx with
   |some lo,some hi,some mx=> hsla size len p lo hi mx λ p l c=> K (.slice p l c) H
   |_,_,_=> none
  |_=> none
 | .cnv k x=> match gx e x with
  | .int _ n=> K (.int k (k.wrap n)) H
  |_=> none
 | .len str x=> match gx e x,str with
  | .slice _ l _,false=> K (.int .i64 l) H
  | .string s,true=> K (.int .i64 s.size) H
  |_,_=> none
 | .cst n _=> K (.int .i64 n) H
 | .mx x y=> match gx e x,gx e y with
  | .int k a, .int k' b=> bif ikeq k k' then K (.int k (if b > a then b else a)) H else none
  |_,_=> none
 | .mn x y=> match gx e x,gx e y with
  | .int k a, .int k' b=> bif ikeq k k' then K (.int k (if b < a then b else a)) H else none
  |_,_=> none
 | .app zero bytes s x=> match gx e s,gx e x with
  | .slice p l c, .slice q n _=> happS zero.length bytes H p l c q n λ p l c H'=> K (.slice p l c) H'
  |_,_=> none
 | .apn zero bytes s x=> match gx e s,gx e x with
  | .slice p l c, .slice q n _=> hapnS zero.length bytes H p l c q n λ p l c H'=> K (.slice p l c) H'
  |_,_=> none
 | .cpy size d s=> match gx e d,gx e s with
  | .slice p l _, .slice q n _=> hcpy H p (hcells H q (min n l * size)) (min n l) λ n H'=> K (.int .i64 n) H'
  |_,_=> none
 | .clr zero s=> match gx e s with
  | .slice p l _=> hclr zero H p l λ H'=> K undef H'
  |_=> none
 | .call f args k=> bif allOk (gxs e args) then C f (gxs e args) H λ v H'=> asR k v λ v=> K v H' else none
 | .calp f args k=> bif allOk (gxs e args) then C f (gxs e args) (roH H) λ v _=> bif ptrFree v then asR k v λ v=> K v H else none else none
 | .calf f args hide k=> bif allOk (gxs e args) then C f (gxs e args) (roH (hideH H made hide)) λ v H'=> asR k v λ v=> K v (H++H'.drop H.length) else none
 | .calv g args k=> match gx e g with
  | .func (.func f) fs cs=> bif allOk (fs.toList++gxs e args++cs.toList) then C f (fs.toList++gxs e args++cs.toList) H λ v H'=> asR k v λ v=> K v H' else none
  |_=> none
 | .calq g args k=> match gx e g with
  | .func (.func f) fs cs=> bif allOk (fs.toList++gxs e args++cs.toList) then C f (fs.toList++gxs e args++cs.toList) (roH H) λ v _=> bif ptrFree v then asR k v λ v=> K v H else none else none
  |_=> none
 | .cvs s=> match gx e s with
  | .slice (some p) l c=> hcvs H p l λ H'=> K (.slice (some p) l c) H'
  |_=> none
 | .b2s x=> match gx e x with
  | .slice p l _=> hb2s H p l λ s=> K (.string s) H
  |_=> none
 | .eqT x y neg=> match gx e x,gx e y with
  | .string a, .string b=> K (.bool (bif neg then !(a==b) else (a==b))) H
  |_,_=> none
 | .idt x i=> match gx e x,gx e i with
  | .string s, .int _ n=> hidt s n λ m=> K (.int .u8 m) H
  |_,_=> none
 | .mkf f caps=> bif allOk (gxs e caps) then K (.func (.func f) #[] ⟨gxs e caps⟩) H else none
def eput (d:Option Nat) (v:Value) (e:Env):Env:=
 match d with
 |some d=> (d,v)::e
 |none=> e
def isCreator:IOp->Bool
 | .alc _| .box _| .bls ..| .mks ..| .apn ..| .calf ..=> true
 |_=> false
def evO (C:Tab R) (H0:Heap) (made:List (Nat×Nat×Nat)) (o:IOp) (e:Env) (H:Heap) (K:Value->Heap->Option R):Option R:=
 match o with
 | .ldr k x=> evOp C made (.ldr k x) e H0 λ v _=> K v H
 |o=> evOp C made o e H K
def evOps (C:Tab R) (H0:Heap):List IOper->Nat->List (Nat×Nat×Nat)->Env->Heap->(Env->Heap->Option R)->Option R
 | [],_,_,e,H,K=> K e H
 |o::os,i,made,e,H,K=>
  match o.guard with
  |none=> evO C H0 made o.op e H λ v H'=> evOps C H0 os (i+1) (bif isCreator o.op then (i,H.length,H'.length)::made else made) (eput o.dst v e) H' K
  |some (g,want)=> match eget e g with
   | .bool t=> bif t
    then (bif want then evO C H0 made o.op ((g, .bool true)::e) H λ v H'=> evOps C H0 os (i+1) (bif isCreator o.op then (i,H.length,H'.length)::made else made) (eput o.dst v ((g, .bool true)::e)) H' K
     else evOps C H0 os (i+1) made (eput o.dst skp ((g, .bool true)::e)) H K)
    else (bif want then evOps C H0 os (i+1) made (eput o.dst skp ((g, .bool false)::e)) H K
     else evO C H0 made o.op ((g, .bool false)::e) H λ v H'=> evOps C H0 os (i+1) (bif isCreator o.op then (i,H.length,H'.length)::made else made) (eput o.dst v ((g, .bool false)::e)) H' K)
   | .tuple cs=> bif Nat.beq cs.toList.length 1 then evOps C H0 os (i+1) made (eput o.dst skp e) H K else none
   |_=> none
def clean (e:Env):List Nat->Env
 | []=> []
 |t::ts=> (t,eget e t)::clean e ts
def hfrz (H:Heap) (a:Option Addr) (K:Heap->Option R):Option R:=
 match a with
 |some ⟨b,_,_⟩=> match hblk H b with
  |some B=> K (hset H b (some ⟨B.cells,true,B.sz⟩))
  |none=> none
 |none=> none
def evJ (C:Tab R) (J:JTab R):IC->Env->Heap->(Xit->Env->Heap->Option R)->Option R
 | .skip,e,H,K=> K .normal e H
 | .reg ops live,e,H,K=> evOps C H ops 0 [] e H λ e H=> K .normal (clean e live) H
 | .seq a b,e,H,K=> evJ C J a e H λ x e H=> match x with
  | .normal=> evJ C J b e H K
  |x=> K x e H
 | .cond x a b,e,H,K=> match gx e x with
  | .bool t=> bif t then evJ C J a e H K else evJ C J b e H K
  |_=> none
 | .block id b,e,H,K=> evJ C J b e H λ x e H=> match x with
  | .exit id'=> bif Nat.beq id' id then K .normal e H else K (.exit id') e H
  |x=> K x e H
 | .loop _,_,_,_=> none
 | .exit id,e,H,K=> K (.exit id) e H
 | .ret,e,H,K=> K .ret e H
 | .opq i ls _,e,H,K=> J i ((clean e ls).map (·.2)) H K
 | .frz t c,e,H,K=> match eget e t with
  | .pointer a=> hfrz H a λ H=> evJ C J c e H K
  |_=> none
inductive RV where
 |t (n:Nat)
 |cell (n:Nat) (k:VK)
def evRV (e:Env) (H:Heap) (r:RV) (K:Value->Option R):Option R:=
 match r with
 | .t n=> bif okv (eget e n) then K (eget e n) else none
 | .cell n k=> match eget e n with
  | .pointer a=> match k with
   | .sc s=> ldS s H a λ v=> bif okv v then K v else none
   | .agg ks=> ldN ks H a 0 λ vs=> K (.agg ⟨vs⟩)
  |_=> none
def evRVs (e:Env) (H:Heap):List RV->(List Value->Option R)->Option R
 | [],K=> K []
 |r::rs,K=> evRV e H r λ v=> evRVs e H rs λ vs=> K (v::vs)
def tupled:List Value->Value
 | [v]=> v
 |vs=> .tuple ⟨vs⟩
structure IFn where
 nt:Nat
 res:List RV
 body:IC
def zipT:Nat->List Value->Env
 |_, []=> []
 |i,v::vs=> (i,v)::zipT (i+1) vs
def evF (C:Tab R) (J:JTab R) (fn:IFn) (args:List Value) (H:Heap) (K:Value->Heap->Option R):Option R:=
 evJ C J fn.body (zipT 0 args) H λ x e H=> match x with
  | .exit _=> none
  |_=> evRVs e H fn.res λ vs=> K (tupled vs) H
end eval
abbrev Ren:=Nat->Option (Nat×Nat×Nat)
def At (ρ:Ren) (b b' d:Nat):Prop:=∃m,ρ b=some (b',d,m)
def cp (ρ:Ren) (b:Nat):Nat:=match ρ b with
 |some (_,_,m)=> m
 |none=> 0
theorem At.ne {ρ:Ren} {b b' d:Nat} (h:At ρ b b' d):ρ b≠none:=by obtain ⟨m,h⟩:=h;rw [h];simp
theorem At.uniq {ρ:Ren} {b b' d x y:Nat} (h:At ρ b b' d) (k:At ρ b x y):b'=x/\d=y:=by
 obtain ⟨m,h⟩:=h;obtain ⟨m',k⟩:=k;rw [h] at k;cases k;exact ⟨rfl,rfl⟩
inductive VRel (ρ:Ren):Value->Value->Prop
 |bool (b:Bool):VRel ρ (.bool b) (.bool b)
 |int (k:IntKind) (n:Int):VRel ρ (.int k n) (.int k n)
 |flt (k:FloatKind) (b:Nat):VRel ρ (.float k b) (.float k b)
 |str (s:ByteArray):VRel ρ (.string s) (.string s)
 |nilp:VRel ρ (.pointer none) (.pointer none)
 |ptr {b o b' d:Nat}:At ρ b b' d->VRel ρ (.pointer (some ⟨b,o,none⟩)) (.pointer (some ⟨b',d+o,none⟩))
 |nils (l c:Nat):VRel ρ (.slice none l c) (.slice none l c)
 |slc {b o b' d l c c':Nat}:At ρ b b' d->(c=c'∨c=unk)->l<=c'->(c=unk->o=0->c'<=cp ρ b)->VRel ρ (.slice (some ⟨b,o,none⟩) l c) (.slice (some ⟨b',d+o,none⟩) l c')
 |slz (a a':Addr):VRel ρ (.slice (some a) 0 0) (.slice (some a') 0 0)
 |sle {p:Addr} {c:Nat} (hp:p=⟨0,1,some 0⟩) (hc:c=unk) (a':Addr) (c':Nat):VRel ρ (.slice (some p) 0 c) (.slice (some a') 0 c')
 |nilf:VRel ρ .nilFunc .nilFunc
 |nili:VRel ρ .nilIface .nilIface
 |func (f:Fn) {xs xs' ys ys':List Value}:xs.length=xs'.length->(∀(i:Nat) x y,xs[i]? =some x->xs'[i]? =some y->VRel ρ x y)->
  ys.length=ys'.length->(∀(i:Nat) x y,ys[i]? =some x->ys'[i]? =some y->VRel ρ x y)->VRel ρ (.func f ⟨xs⟩ ⟨ys⟩) (.func f ⟨xs'⟩ ⟨ys'⟩)
 |agg {xs xs':List Value}:xs.length=xs'.length->(∀(i:Nat) x y,xs[i]? =some x->xs'[i]? =some y->VRel ρ x y)->VRel ρ (.agg ⟨xs⟩) (.agg ⟨xs'⟩)
 |tup {xs xs':List Value}:xs.length=xs'.length->(∀(i:Nat) x y,xs[i]? =some x->xs'[i]? =some y->VRel ρ x y)->VRel ρ (.tuple ⟨xs⟩) (.tuple ⟨xs'⟩)
def LRel (ρ:Ren) (xs ys:List Value):Prop:=xs.length=ys.length/\∀(i:Nat) x y,xs[i]? =some x->ys[i]? =some y->VRel ρ x y
def Le (ρ ρ':Ren):Prop:=∀b x,ρ b=some x->ρ' b=some x
theorem Le.refl (ρ:Ren):Le ρ ρ:=λ _ _ h=> h
theorem Le.trans {ρ1 ρ2 ρ3:Ren} (h:Le ρ1 ρ2) (k:Le ρ2 ρ3):Le ρ1 ρ3:=λ b x e=> k b x (h b x e)
theorem At.mono {ρ ρ':Ren} (h:Le ρ ρ') {b b' d:Nat} (k:At ρ b b' d):At ρ' b b' d:=by obtain ⟨m,k⟩:=k;exact ⟨m,h _ _ k⟩
theorem ATv {ρ ρ':Ren} (h:Le ρ ρ') {b b' d:Nat} (k:At ρ b b' d):cp ρ' b=cp ρ b:=by obtain ⟨m,k⟩:=k;simp [cp,k,h _ _ k]
theorem VRel.mono {ρ ρ':Ren} (h:Le ρ ρ') {v v':Value} (r:VRel ρ v v'):VRel ρ' v v':=by
 induction r with
 |bool b=> exact .bool b
 |int k n=> exact .int k n
 |flt k b=> exact .flt k b
 |str s=> exact .str s
 |nilp=> exact .nilp
 |ptr e=> exact .ptr (e.mono h)
 |nils l c=> exact .nils l c
 |slc e c1 c2 c3=> exact .slc (e.mono h) c1 c2 (λ a b=> by rw [ATv h e];exact c3 a b)
 |slz a a'=> exact .slz a a'
 |sle hp hc a' c'=> exact .sle hp hc a' c'
 |nilf=> exact .nilf
 |nili=> exact .nili
 |func f l1 _ l2 _ ih1 ih2=> exact .func f l1 ih1 l2 ih2
 |agg l1 _ ih=> exact .agg l1 ih
 |tup l1 _ ih=> exact .tup l1 ih
theorem VRel.back {ρ ρ':Ren} (h:Le ρ ρ') {v x:Value} (r:VRel ρ v x):∀y,VRel ρ' v y->VRel ρ v y:=by
 induction r with
 |bool b=> intro y k;cases k;exact .bool b
 |int k n=> intro y k;cases k;exact .int _ n
 |flt k b=> intro y k;cases k;exact .flt _ b
 |str s=> intro y k;cases k;exact .str s
 |nilp=> intro y k;cases k;exact .nilp
 |ptr e=> intro y k;cases k with|ptr e2=> obtain ⟨rfl,rfl⟩:=(e.mono h).uniq e2;exact .ptr e
 |nils l c=> intro y k;cases k;exact .nils l c
 |slc e c1 c2 c3=>
  intro y k
  cases k with
  |slc e2 d1 d2 d3=> obtain ⟨rfl,rfl⟩:=(e.mono h).uniq e2;exact .slc e d1 d2 (λ a b=> by rw [←ATv h e];exact d3 a b)
  |slz a a'=> exact .slz _ _
  |sle hp hc _ _=> exact .sle hp hc _ _
 |slz a a'=>
  intro y k
  cases k with
  |slc e2 d1 d2 d3=>
   rcases d1 with rfl|d1
   . exact .slz _ _
   . exact (by simp [unk] at d1:False).elim
  |slz _ _=> exact .slz _ _
  |sle hp hc _ _=> exact .sle hp hc _ _
 |sle hp hc a' c'=>
  intro y k
  cases k with
  |slc e2 d1 d2 d3=> exact .sle hp hc _ _
  |slz _ _=> exact .slz _ _
  |sle _ _ _ _=> exact .sle hp hc _ _
 |nilf=> intro y k;cases k;exact .nilf
 |nili=> intro y k;cases k;exact .nili
 |@func f xs xs' ys ys' l1 h1 l2 h2 ih1 ih2=>
  intro y k
  cases k with
  |@func _ _ zs _ us m1 k1 m2 k2=>
   refine .func f m1 (λ i x z a b=> ?_) m2 (λ i x z a b=> ?_)
   . have hi:i < xs'.length:=by rw [←l1];exact (List.getElem?_eq_some_iff.1 a).1
     exact ih1 i x xs'[i] a (List.getElem?_eq_getElem hi) z (k1 i x z a b)
   . have hi:i < ys'.length:=by rw [←l2];exact (List.getElem?_eq_some_iff.1 a).1
     exact ih2 i x ys'[i] a (List.getElem?_eq_getElem hi) z (k2 i x z a b)
 |@agg xs xs' l1 h1 ih=>
  intro y k
  cases k with
  |@agg _ zs m1 k1=>
   refine .agg m1 (λ i x z a b=> ?_)
   have hi:i < xs'.length:=by rw [←l1];exact (List.getElem?_eq_some_iff.1 a).1
   exact ih i x xs'[i] a (List.getElem?_eq_getElem hi) z (k1 i x z a b)
 |@tup xs xs' l1 h1 ih=>
  intro y k
  cases k with
  |@tup _ zs m1 k1=>
   refine .tup m1 (λ i x z a b=> ?_)
   have hi:i < xs'.length:=by rw [←l1];exact (List.getElem?_eq_some_iff.1 a).1
   exact ih i x xs'[i] a (List.getElem?_eq_getElem hi) z (k1 i x z a b)
theorem VRel.freeC {ρ:Ren} {v v':Value} (h:ptrFreeC v=true) (r:VRel ρ v v') (ρ':Ren):VRel ρ' v v':=by
 cases r <;> first|exact .bool _|exact .int _ _|exact .flt _ _|exact .str _|exact .nilp|exact .nils _ _|exact .nilf|exact .nili|(simp [ptrFreeC] at h)
theorem VRel.freeD {ρ:Ren} {xs xs':List Value} (h:xs.all ptrFreeC=true) (l:xs.length=xs'.length) (r:∀(i:Nat) x y,xs[i]? =some x->xs'[i]? =some y->VRel ρ x y) (ρ':Ren):VRel ρ' (.agg ⟨xs⟩) (.agg ⟨xs'⟩):=
 .agg l λ i x y a b=> (r i x y a b).freeC (List.all_eq_true.1 h x (List.mem_of_getElem? a)) ρ'
theorem VRel.free {ρ:Ren} {v v':Value} (h:ptrFree v=true) (r:VRel ρ v v') (ρ':Ren):VRel ρ' v v':=by
 cases r with
 |agg l k=> exact .freeD h l k ρ'
 |tup l k=>
  refine .tup l λ i x y a b=> ?_
  have hx:=List.all_eq_true.1 h x (List.mem_of_getElem? a)
  have q:=k i x y a b
  cases q with
  |agg l k=> exact .freeD hx l k ρ'
  |bool _=> exact .bool _
  |int _ _=> exact .int _ _
  |flt _ _=> exact .flt _ _
  |str _=> exact .str _
  |nilp=> exact .nilp
  |nils _ _=> exact .nils _ _
  |nilf=> exact .nilf
  |nili=> exact .nili
  |_=> simp [ptrFreeC] at hx
 |func=> simp [ptrFree,ptrFreeC] at h
 |ptr=> simp [ptrFree,ptrFreeC] at h
 |slc=> simp [ptrFree,ptrFreeC] at h
 |slz=> simp [ptrFree,ptrFreeC] at h
 |sle=> simp [ptrFree,ptrFreeC] at h
 |bool b=> exact .bool b
 |int k n=> exact .int k n
 |flt k b=> exact .flt k b
 |str s=> exact .str s
 |nilp=> exact .nilp
 |nils l c=> exact .nils l c
 |nilf=> exact .nilf
 |nili=> exact .nili
def V0 (ρ:Ren) (v v':Value):Prop:=v=undef∨(v=skp/\v'=undef)∨VRel ρ v v'
theorem V0.of {ρ:Ren} {v v':Value} (h:VRel ρ v v'):V0 ρ v v':= .inr (.inr h)
theorem V0.mono {ρ ρ':Ren} (h:Le ρ ρ') {v v':Value} (r:V0 ρ v v'):V0 ρ' v v':=by
 rcases r with r|r|r
 . exact .inl r
 . exact .inr (.inl r)
 . exact .inr (.inr (r.mono h))
theorem V0.rel {ρ:Ren} {v v':Value} (r:V0 ρ v v') (h:okv v=true):VRel ρ v v':=by
 rcases r with r|r|r
 . subst r;simp [okv,undef] at h
 . rw [r.1] at h;simp [okv,skp] at h
 . exact r
theorem V0.int {ρ:Ren} {k:IntKind} {n:Int} {v':Value} (r:V0 ρ (.int k n) v'):v'= .int k n:=by
 cases r.rel rfl;rfl
theorem V0.bool {ρ:Ren} {n:Bool} {v':Value} (r:V0 ρ (.bool n) v'):v'= .bool n:=by
 cases r.rel rfl;rfl
theorem V0.str {ρ:Ren} {n:ByteArray} {v':Value} (r:V0 ρ (.string n) v'):v'= .string n:=by
 cases r.rel rfl;rfl
theorem V0.ptr {ρ:Ren} {b o:Nat} {s:Option Nat} {v':Value} (r:V0 ρ (.pointer (some ⟨b,o,s⟩)) v'):s=none/\∃b' d,At ρ b b' d/\v'= .pointer (some ⟨b',d+o,none⟩):=by
 cases r.rel rfl with|ptr e=> exact ⟨rfl,_,_,e,rfl⟩
theorem V0.nil {ρ:Ren} {v':Value} (r:V0 ρ (.pointer none) v'):v'= .pointer none:=by
 cases r.rel rfl;rfl
theorem V0.slc {ρ:Ren} {b o l c:Nat} {s:Option Nat} {v':Value} (r:V0 ρ (.slice (some ⟨b,o,s⟩) l c) v') (hz:¬ (l=0/\(c=0∨(c=unk/\o=1/\s=some 0)))):s=none/\∃b' d c',At ρ b b' d/\v'= .slice (some ⟨b',d+o,none⟩) l c'/\(c=c'∨c=unk)/\l<=c'/\(c=unk->o=0->c'<=cp ρ b):=by
 cases r.rel rfl with
 |slc e h1 h2 h3=> exact ⟨rfl,_,_,_,e,rfl,h1,h2,h3⟩
 |slz a a'=> exact (hz ⟨rfl, .inl rfl⟩).elim
 |sle hp hc a' c'=> cases hp;exact (hz ⟨rfl, .inr ⟨hc,rfl,rfl⟩⟩).elim
theorem V0.slx {ρ:Ren} {a:Addr} {l c:Nat} {v':Value} (r:V0 ρ (.slice (some a) l c) v'):∃a' c',v'= .slice (some a') l c'/\(c=c'∨c=unk)/\l<=c':=by
 cases r.rel rfl with
 |slc e h1 h2 h3=> exact ⟨_,_,rfl,h1,h2⟩
 |slz a a'=> exact ⟨_,_,rfl, .inl rfl,Nat.le_refl _⟩
 |sle hp hc a' c'=> exact ⟨_,_,rfl, .inr hc,Nat.zero_le _⟩
theorem V0.nils {ρ:Ren} {l c:Nat} {v':Value} (r:V0 ρ (.slice none l c) v'):v'= .slice none l c:=by
 cases r.rel rfl;rfl
theorem V0.agg {ρ:Ren} {cs:Array Value} {v':Value} (r:V0 ρ (.agg cs) v'):∃ds:Array Value,v'= .agg ds/\LRel ρ cs.toList ds.toList:=by
 cases r.rel rfl with|agg l h=> exact ⟨_,rfl,l,h⟩
theorem V0.nilf {ρ:Ren} {v':Value} (r:V0 ρ .nilFunc v'):v'= .nilFunc:=by
 cases r.rel rfl;rfl
theorem V0.func {ρ:Ren} {f:Fn} {xs ys:Array Value} {v':Value} (r:V0 ρ (.func f xs ys) v'):∃xs' ys':Array Value,v'= .func f xs' ys'/\LRel ρ xs.toList xs'.toList/\LRel ρ ys.toList ys'.toList:=by
 cases r.rel rfl with|func _ l1 h1 l2 h2=> exact ⟨_,_,rfl,⟨l1,h1⟩,l2,h2⟩
theorem V0.tup {ρ:Ren} {xs:List Value} {v':Value} (r:V0 ρ (.tuple ⟨xs⟩) v') (h:∀(i:Nat) x,xs[i]? =some x->x=undef->False) (h0:xs≠ []):∃ys:List Value,v'= .tuple ⟨ys⟩/\LRel ρ xs ys:=by
 rcases r with r|r|r
 . simp [undef] at r;exact (h0 r).elim
 . have:=r.1;simp [skp] at this;subst this;exact (h 0 _ rfl rfl).elim
 . cases r with|tup l k=> exact ⟨_,rfl,l,k⟩
theorem AL7 {v:Value} (h:ptrFreeC v=true):ptrFree v=true:=by
 cases v <;> first|exact h|(simp [ptrFreeC] at h)
theorem AYd {v:Value} (h:ptrFreeC v=true):oneC v=true:=by
 cases v <;> first|rfl|(simp [ptrFreeC] at h)
theorem AQt {z:List Value} (h:z.all ptrFreeC=true):z.all oneC=true:=List.all_eq_true.2 λ v hv=> AYd (List.all_eq_true.1 h v hv)
theorem AQW {v:Value} (h:ptrFreeC v=true):okv v=true:=by
 cases v <;> first|rfl|(simp [ptrFreeC] at h)
theorem LRel.nil {ρ:Ren}:LRel ρ [] []:=⟨rfl,λ i x y a=> by simp at a⟩
theorem LRel.cons {ρ:Ren} {x y:Value} {xs ys:List Value} (h:VRel ρ x y) (k:LRel ρ xs ys):LRel ρ (x::xs) (y::ys):=by
 refine ⟨by simp [k.1],λ i a b ha hb=> ?_⟩
 cases i with
 |zero=> simp at ha hb;subst ha;subst hb;exact h
 |succ i=> simp at ha hb;exact k.2 i a b ha hb
theorem LRel.append {ρ:Ren} {xs ys us vs:List Value} (h:LRel ρ xs ys) (k:LRel ρ us vs):LRel ρ (xs++us) (ys++vs):=by
 refine ⟨by simp [h.1,k.1],λ i a b ha hb=> ?_⟩
 rw [List.getElem?_append] at ha hb
 rw [←h.1] at hb
 split at ha
 . rename_i hi;rw [if_pos hi] at hb;exact h.2 i a b ha hb
 . rename_i hi;rw [if_neg hi] at hb;exact k.2 _ a b ha hb
theorem LRel.take {ρ:Ren} {xs ys:List Value} (h:LRel ρ xs ys) (n:Nat):LRel ρ (xs.take n) (ys.take n):=by
 refine ⟨by simp [h.1],λ i a b ha hb=> ?_⟩
 rw [List.getElem?_take] at ha hb
 split at ha
 . rename_i hi;rw [if_pos hi] at hb;exact h.2 i a b ha hb
 . cases ha
theorem LRel.drop {ρ:Ren} {xs ys:List Value} (h:LRel ρ xs ys) (n:Nat):LRel ρ (xs.drop n) (ys.drop n):=by
 refine ⟨by simp [h.1],λ i a b ha hb=> ?_⟩
 rw [List.getElem?_drop] at ha hb
 exact h.2 _ a b ha hb
theorem LRel.mono {ρ ρ':Ren} (h:Le ρ ρ') {xs ys:List Value} (r:LRel ρ xs ys):LRel ρ' xs ys:=⟨r.1,λ i a b ha hb=> (r.2 i a b ha hb).mono h⟩
theorem LRel.get {ρ:Ren} {xs ys:List Value} (r:LRel ρ xs ys) {i:Nat} {x:Value} (h:xs[i]? =some x):∃y,ys[i]? =some y/\VRel ρ x y:=by
 have hi:i < ys.length:=by rw [←r.1];exact (List.getElem?_eq_some_iff.1 h).1
 exact ⟨_,List.getElem?_eq_getElem hi,r.2 i x _ h (List.getElem?_eq_getElem hi)⟩
structure Rel (ρ:Ren) (hp:Nat->Option Blk) (w:World):Prop where
 blk:∀b B,hp b=some B->∃b' d m arr el fr,ρ b=some (b',d,m)/\w.heap[b']? =some (.cells arr el fr)/\
  (∀(i:Nat) v,B.cells[i]? =some v->∃v',arr[d+i]? =some v'/\VRel ρ v v')/\(B.ro=false->d=0/\fr=(0,0)/\m * B.sz<=arr.size)/\B.cells.all oneC=true
 inj:∀b1 B1 b2 B2 x1 d1 x2 d2,hp b1=some B1->hp b2=some B2->b1≠b2->B1.ro=false->At ρ b1 x1 d1->At ρ b2 x2 d2->x1≠x2
structure Kept (ρ:Ren) (hp:Nat->Option Blk) (w w':World):Prop where
 os:w'.os=w.os
 tape:w'.tape=w.tape
 output:w'.output=w.output
 size:w.heap.size<=w'.heap.size
 block:∀c,c < w.heap.size->(∀b B d,hp b=some B->B.ro=false->¬ At ρ b c d)->w'.heap[c]? =w.heap[c]?
structure Goes (ρ:Ren) (hp:Nat->Option Blk) (w:World) (ρ':Ren) (hp':Nat->Option Blk) (w':World):Prop where
 le:Le ρ ρ'
 rel:Rel ρ' hp' w'
 kept:Kept ρ hp w w'
 ancs:∀b B x d,hp' b=some B->At ρ' b x d->w.heap.size<=x∨(∃B0,hp b=some B0/\At ρ b x d/\(B.ro=false->B0.ro=false))∨∃b0 B0 d0,hp b0=some B0/\B0.ro=false/\At ρ b0 x d0
theorem Goes.anc {ρ ρ':Ren} {hp hp':Nat->Option Blk} {w w':World} (g:Goes ρ hp w ρ' hp' w'):∀b B x d,hp' b=some B->B.ro=false->At ρ' b x d->w.heap.size<=x∨∃b0 B0 d0,hp b0=some B0/\B0.ro=false/\At ρ b0 x d0:=by
 intro b B x d hb hro hx
 rcases g.ancs b B x d hb hx with h|⟨B0,h1,h2,h3⟩|h
 . exact .inl h
 . exact .inr ⟨b,B0,d,h1,h3 hro,h2⟩
 . exact .inr h
theorem Rel.anyHeap {ρ:Ren} {hp:Nat->Option Blk} {w w':World} (h:Rel ρ hp w) (e:w'.heap=w.heap):Rel ρ hp w':=
 ⟨λ b B hb=> by rw [e];exact h.blk b B hb,h.inj⟩
theorem Goes.refl {ρ:Ren} {hp:Nat->Option Blk} {w:World} (h:Rel ρ hp w):Goes ρ hp w ρ hp w:=
 ⟨Le.refl _,h,⟨rfl,rfl,rfl,Nat.le_refl _,λ _ _ _=> rfl⟩,λ b B x d hb hx=> .inr (.inl ⟨B,hb,hx,id⟩)⟩
theorem Goes.trans {ρ1 ρ2 ρ3:Ren} {h1 h2 h3:Nat->Option Blk} {w1 w2 w3:World} (a:Goes ρ1 h1 w1 ρ2 h2 w2) (b:Goes ρ2 h2 w2 ρ3 h3 w3):Goes ρ1 h1 w1 ρ3 h3 w3:=by
 refine ⟨a.le.trans b.le,b.rel,⟨b.kept.os.trans a.kept.os,b.kept.tape.trans a.kept.tape,b.kept.output.trans a.kept.output,Nat.le_trans a.kept.size b.kept.size,λ c hc hn=> ?_⟩,λ x B y d hb hx=> ?_⟩
 . rw [b.kept.block c (Nat.lt_of_lt_of_le hc a.kept.size) ?_,a.kept.block c hc hn]
   intro x B d hb hr he
   rcases a.anc x B c d hb hr he with h|⟨b0,B0,d0,k1,k2,k3⟩
   . omega
   . exact hn b0 B0 d0 k1 k2 k3
 . rcases b.ancs x B y d hb hx with h|⟨B0,k1,k2,k3⟩|⟨b0,B0,d0,k1,k2,k3⟩
   . exact .inl (Nat.le_trans a.kept.size h)
   . rcases a.ancs x B0 y d k1 k2 with h|⟨B1,g1,g2,g3⟩|h
     . exact .inl h
     . exact .inr (.inl ⟨B1,g1,g2,λ h=> g3 (k3 h)⟩)
     . exact .inr (.inr h)
   . rcases a.anc b0 B0 y d0 k1 k2 k3 with h|h
     . exact .inl h
     . exact .inr (.inr h)
theorem Goes.drew {ρ ρ':Ren} {h h':Nat->Option Blk} {w w':World} (a:Goes ρ h w ρ' h' w') (n:Nat):Goes ρ h w ρ' h' { w' with drawn:=n }:=
 ⟨a.le,a.rel.anyHeap rfl,⟨a.kept.os,a.kept.tape,a.kept.output,a.kept.size,a.kept.block⟩,a.ancs⟩
def Dom (ρ:Ren) (n:Nat):Prop:=∀b,n<=b->ρ b=none
theorem Rel.cell {ρ:Ren} {hp:Nat->Option Blk} {w:World} (h:Rel ρ hp w) {b o b' d:Nat} {B:Blk} {v:Value} (hb:hp b=some B) (hv:B.cells[o]? =some v) (hr:At ρ b b' d):
 ∃v',w.cell? ⟨b',d+o,none⟩=some v'/\VRel ρ v v':=by
 obtain ⟨b2,d2,m2,arr,el,fr,e,hw,hc,_⟩:=h.blk b B hb
 obtain ⟨m,hr⟩:=hr
 rw [hr] at e;cases e
 obtain ⟨v',h1,h2⟩:=hc o v hv
 exact ⟨v',by simp [World.cell?,hw,h1],h2⟩
structure Ann where
 drop:List Nat
 pure:List Nat
 fresh:List Nat
 wr:List Nat
def sz (P:Program) (t:TypeId):Option Nat:=(P.info? t).map (·.size)
def byts (P:Program) (t:TypeId):Option Nat:=(P.info? t).map (·.bytes)
def zer (P:Program) (t:TypeId):Option (List Value):=((P.info? t).bind (·.zero)).map (·.cells.toList)
def skOf (P:Program) (t:TypeId):SK:=
 match P.underlying t with
 |some (.int k)=> .int k
 |some .bool=> .bool
 |some (.pointer _)=> .ptr
 |some (.slice _)=> .slc
 |some .string=> .str
 |some (.func ..)=> .fn
 |_=> .any
def rep {α:Type} (l:List α):Nat->List α
 |0=> []
 |n+1=> l++rep l n
def kinds (P:Program):Nat->TypeId->List SK
 |0,_=> []
 |d+1,t=> match P.underlying t with
  |some (.struct fs)=> fs.toList.flatMap λ f=> kinds P d f.type
  |some (.array n e)=> rep (kinds P d e) n
  |_=> [skOf P t]
def isAg (P:Program) (t:TypeId):Bool:=
 match P.underlying t with
 |some (.struct _)|some (.array _ _)=> true
 |_=> false
def vkOf (P:Program) (t:TypeId):VK:=bif isAg P t then .agg (kinds P 6 t) else .sc (skOf P t)
def rkOf (P:Program) (t:TypeId):RK:=
 match P.underlying t with
 |some (.tuple ts)=> match ts.toList with
  | []=> .none
  |ts=> .tup (ts.map (vkOf P))
 |_=> .one (vkOf P t)
def trX:Operand->Option X
 | .tmp t=> some (.t t)
 | .const v=> bif ptrFree v && okv v then some (.c v) else none
 | .func f=> some (.c (.func (.func f) #[] #[]))
 | .global _=> none
def trXs:List Operand->Option (List X)
 | []=> some []
 |x::xs=> match trX x,trXs xs with
  |some y,some ys=> some (y::ys)
  |_,_=> none
def trXo:Option Operand->Option (Option X)
 |none=> some none
 |some x=> match trX x with
  |some y=> some (some y)
  |none=> none
def places (pl:List (Nat×Nat)):List (Nat×Operand)->Option (List (Nat×Nat×X))
 | []=> some []
 |(i,x)::ps=> match pl[i]?,trX x,places pl ps with
  |some (o,n),some y,some ys=> some ((o,n,y)::ys)
  |_,_,_=> none
def placesA (size:Nat):List (Nat×Operand)->Option (List (Nat×Nat×X))
 | []=> some []
 |(i,x)::ps=> match trX x,placesA size ps with
  |some y,some ys=> some ((i * size,size,y)::ys)
  |_,_=> none
def scalarOff (P:Program) (f:Field):Option (Nat×Nat):=
 match P.underlying f.type with
 | some (.int _) => bif f.name == "_" then none else some (f.offset, 0)
 | some .bool => bif f.name == "_" then none else some (f.offset, 1)
 | some .string => bif f.name == "_" then none else some (f.offset, 2)
 |_=> none
def offs (P:Program):List Field->Option (List (Nat×Nat))
 | []=> some []
 |f::fs=> match scalarOff P f,offs P fs with
  |some o,some os=> some (o::os)
  |_,_=> none
def trBin (P:Program) (op:BinOp) (t:TypeId) (x y:Operand):Option IOp:=
 match trX x,trX y with
 |some a,some b=>
  match P.underlying t with
  |some (.int k)=> bif isArith op||isShift op then some (.bin op k a b) else bif isCmp op then some (.cmp op a b) else none
  |some .bool=> match op with
   | .eql=> some (.eqb a b false)
   | .neq=> some (.eqb a b true)
   |_=> none
  |some .string=> match op with
   | .eql=> some (.eqT a b false)
   | .neq=> some (.eqT a b true)
   |_=> none
  |some (.pointer _)=> match op,y with
   | .eql, .const (.pointer none)=> some (.eqnil a false 0)
   | .neq, .const (.pointer none)=> some (.eqnil a true 0)
   |_,_=> none
  |some (.slice _)=> match op,y with
   | .eql, .const (.slice none _ _)=> some (.eqnil a false 1)
   | .neq, .const (.slice none _ _)=> some (.eqnil a true 1)
   |_,_=> none
  |some (.func ..)=> match op,y with
   | .eql, .const .nilFunc=> some (.eqnil a false 2)
   | .neq, .const .nilFunc=> some (.eqnil a true 2)
   |_,_=> none
  |some (.struct fs)=> bif P.stoodInHeld t||P.eqGuardType P.depth t then none else match offs P fs.toList with
   |some os=> match op with
    | .eql=> some (.eqs os a b false)
    | .neq=> some (.eqs os a b true)
    |_=> none
   |none=> none
  |_=> none
 |_,_=> none
def trCall (P:Program) (an:Ann) (bar:Bool) (hide:List Nat) (c:Call) (t:TypeId):Option IOp:=
 match c.callee with
 | .builtin b=>
  match b,c.argTypes.toList,c.args.toList with
  | .len, [u], [x]=> match trX x,P.underlying u with
   |some x,some (.slice _)=> some (.len false x)
   |some x,some .string=> some (.len true x)
   |some x,some (.array n _)=> some (.cst n x)
   |_,_=> none
  | .max,_, [x,y]=> match trX x,trX y with
   |some x,some y=> some (.mx x y)
   |_,_=> none
  | .min,_, [x,y]=> match trX x,trX y with
   |some x,some y=> some (.mn x y)
   |_,_=> none
  | .append, [u,u'], [x,y]=> match trX x,trX y,P.underlying u,P.underlying u' with
   |some s,some y,some (.slice e),some (.slice _)=> match zer P e,byts P e,sz P e with
    |some z,some n,some m=> bif Nat.beq m z.length && !(Nat.beq m 0) && !(Nat.beq n 0) && z.all ptrFreeC then
     (match x with
      | .const (.slice none _ _)=> some (.apn z n s y)
      |_=> bif bar then some (.app z n s y) else some (.apn z n s y)) else none
    |_,_,_=> none
   |_,_,_,_=> none
  | .copy, [u,_], [x,y]=> match trX x,trX y,P.underlying u with
   |some d,some s,some (.slice e)=> match sz P e with
    |some m=> bif Nat.beq m 0 then none else some (.cpy m d s)
    |none=> none
   |_,_,_=> none
  | .clear, [u], [x]=> match trX x,P.underlying u with
   |some s,some (.slice e)=> match zer P e,sz P e with
    |some z,some m=> bif Nat.beq m z.length && !(Nat.beq m 0) && z.all ptrFreeC then some (.clr z s) else none
    |_,_=> none
   |_,_=> none
  |_,_,_=> none
 | .value (.func f)=> match trXs c.args.toList with
  |some xs=> match P.funcs[f]? with
   | some fn => bif fn.body.isSome && !(fn.name == "runtime.NumGoroutine") then
    (bif an.drop.elem f||(!bar && an.pure.elem f) then some (.calp f xs (rkOf P t)) else bif !bar && an.fresh.elem f then some (.calf f xs hide (rkOf P t)) else some (.call f xs (rkOf P t))) else none
   |none=> none
  |none=> none
 | .value (.tmp g)=> match trXs c.args.toList with
  |some xs=> bif bar then some (.calv (.t g) xs (rkOf P t)) else some (.calq (.t g) xs (rkOf P t))
  |none=> none
 |_=> none
def trOp (P:Program) (an:Ann) (bar:Bool) (hide:List Nat) (op:Op) (t:TypeId):Option IOp:=
 match op with
 | .move x| .assign x=> match trX x with
  |some x=> some (.mov x)
  |none=> none
 | .pick c a b=> match trX c,trX a,trX b with
  |some c,some a,some b=> some (.pick c a b)
  |_,_,_=> none
 | .binOp op u x y _=> trBin P op u x y
 | .unOp .not _ x=> match trX x with
  |some x=> some (.lnot x)
  |none=> none
 | .unOp .neg u x=> match trX x,P.underlying u with
  |some x,some (.int k)=> some (.neg k x)
  |_,_=> none
 | .load u a=> match trX a,sz P u with
  |some a,some n=> bif isAg P u then (bif Nat.beq (kinds P 6 u).length n && !(Nat.beq n 0) then some (.ld (vkOf P u) a) else none) else
   (match P.underlying u with|some _=> some (.ld (vkOf P u) a)|none=> none)
  |_,_=> none
 | .store u a v=> match trX a,trX v,sz P u with
  |some a,some v,some n=> some (.st n a v)
  |_,_,_=> none
 | .nilCheck x=> match trX x with
  |some x=> some (.nilc x)
  |none=> none
 | .fieldAddr u x f=> match trX x,P.underlying u with
  |some x,some (.struct fs)=> match fs[f]? with
   |some fd=> match sz P fd.type with
    |some n=> bif Nat.beq n 0 then none else some (.fad fd.offset x)
    |none=> none
   |none=> none
  |_,_=> none
 | .field u x f=> match trX x,P.underlying u with
  |some x,some (.struct fs)=> match fs[f]? with
   |some fd=> match sz P fd.type,P.underlying fd.type with
    |some n,some _=> some (.fld fd.offset n (vkOf P fd.type) x)
    |_,_=> none
   |none=> none
  |_,_=> none
 | .indexAddr u x i=> match trX x,trX i,P.underlying u with
  |some x,some i,some (.slice e)=> match sz P e with
   |some n=> bif Nat.beq n 0 then none else some (.ids n x i)
   |none=> none
  |some x,some i,some (.array m e)=> match sz P e with
   |some n=> bif Nat.beq n 0 then none else some (.ida m n x i)
   |none=> none
  |_,_,_=> none
 | .index u x i=> match trX x,trX i,P.underlying u with
  |some x,some i,some (.array m e)=> match sz P e,P.underlying e with
   |some n,some _=> some (.idv m n (vkOf P e) x i)
   |_,_=> none
  |some x,some i,some .string=> some (.idt x i)
  |_,_,_=> none
 | .extract x i=> match trX x with
  |some x=> some (.ext i x)
  |none=> none
 | .alloc e=> match zer P e with
  |some z=> bif z.all ptrFreeC then some (.alc z) else none
  |none=> none
 | .box _ x=> match trX x with
  |some x=> some (.box x)
  |none=> none
 | .build u parts=> match P.underlying u,zer P u with
  |some (.struct fs),some z=> bif z.all ptrFreeC then (match fs.toList.mapM (λ f=> (P.info? f.type).map λ i=> (f.offset,i.size)) with
   |some pl=> match places pl parts.toList with
    |some ps=> some (.bld z ps)
    |none=> none
   |none=> none) else none
  |some (.array _ e),some z=> bif z.all ptrFreeC then (match sz P e with
   |some n=> match placesA n parts.toList with
    |some ps=> some (.bld z ps)
    |none=> none
   |none=> none) else none
  |_,_=> none
 | .buildSlice u len parts=> match P.underlying u with
  |some (.slice e)=> match zer P e,sz P e with
   |some z,some n=> bif Nat.beq n z.length && !(Nat.beq n 0) && z.all ptrFreeC && Nat.ble (len * n) 16777216 then (match placesA n parts.toList with
    |some ps=> some (.bls len (rep z len) ps)
    |none=> none) else none
   |_,_=> none
  |_=> none
 | .makeSlice u l c=> match trX l,trX c,P.underlying u with
  |some l,some c,some (.slice e)=> match zer P e,sz P e,byts P e with
   |some z,some n,some b=> bif Nat.beq n z.length && !(Nat.beq n 0) && !(Nat.beq b 0) && z.all ptrFreeC then some (.mks z b l c) else none
   |_,_,_=> none
  |_,_,_=> none
 | .slice u x lo hi mx=> match trX x,trXo lo,trXo hi,trXo mx,P.underlying u with
  |some x,some lo,some hi,some mx,some (.slice e)=> match sz P e with
   |some n=> bif Nat.beq n 0||(mx.isSome && hi.isNone) then none else some (.slc n x lo hi mx)
   |none=> none
  |some x,some lo,some hi,some mx,some (.array m e)=> match sz P e with
   |some n=> bif Nat.beq n 0||(mx.isSome && hi.isNone) then none else some (.sla m n x lo hi mx)
   |none=> none
  |_,_,_,_,_=> none
 | .convert u v x=> match trX x,P.underlying u,P.underlying v with
  |some x,some (.int _),some (.int k)=> some (.cnv k x)
  |some x,some (.slice e),some .string=> match P.underlying e with
   |some (.int .u8)=> some (.b2s x)
   |_=> none
  |some x,some (.slice e),some (.slice _)=> match P.underlying e with
   |some (.int .u8)=> bif u==v then some (.cvs x) else none
   |_=> none
  |_,_,_=> none
 | .makeFunc (.func f) first caps=> match first.toList,trXs caps.toList with
  | [],some xs=> some (.mkf f xs)
  |_,_=> none
 | .call c=> trCall P an bar hide c t
 |_=> none
variable {P:Program} {R:Type}
def hpu (hp:Nat->Option Blk) (n:Nat) (nb:Heap):Nat->Option Blk:=λ b=> if n<=b/\b < n+nb.length then hblk nb (b - n) else hp b
theorem ARd (hp:Nat->Option Blk) (n:Nat):hpu hp n []=hp:=by
 funext b;unfold hpu;rw [if_neg (by simp)]
def Grow (ρ ρ':Ren) (n n':Nat):Prop:=∀b,ρ' b≠none->ρ b≠none∨(n<=b/\b < n')
theorem Grow.dom {ρ ρ':Ren} {n n':Nat} (h:Grow ρ ρ' n n') (hn:n<=n') (d:Dom ρ n):Dom ρ' n':=by
 intro b hb
 cases hq:ρ' b with
 |none=> rfl
 |some x=>
  rcases h b (by rw [hq];simp) with h|h
  . exact (h (d b (by omega))).elim
  . omega
theorem Grow.trans {ρ1 ρ2 ρ3:Ren} {n1 n2 n3:Nat} (h:Grow ρ1 ρ2 n1 n2) (k:Grow ρ2 ρ3 n2 n3) (h1:n1<=n2) (h2:n2<=n3):Grow ρ1 ρ3 n1 n3:=by
 intro b hb
 rcases k b hb with q|q
 . rcases h b q with g|g
   . exact .inl g
   . exact .inr (by omega)
 . exact .inr (by omega)
theorem Grow.refl (ρ:Ren) (n n':Nat):Grow ρ ρ n n':=λ _ h=> .inl h
def LP (o:Oper) (a:Act) (ρ:Ren) (hp:Nat->Option Blk) (w:World) (n:Nat) (v:Value) (nb:Heap):Act->World->Prop:=λ a' w'=>
 ∃ρ' v',a'=a.put o.dst v'/\V0 ρ' v v'/\Goes ρ hp w ρ' (hpu hp n nb) w'/\∀b,ρ' b≠none->ρ b≠none∨(n<=b/\b < n+nb.length)
def Agree (ρ:Ren) (hp:Nat->Option Blk) (H:Heap):Prop:=∀b,b < H.length->ρ b≠none->hp b=hblk H b
def Reads (ρ:Ren) (e:Env) (a:Act) (o:Oper):Prop:=∀x∈o.op.operands,∀t,x= .tmp t->V0 ρ (eget e t) (a.tmps.getD t undef)
def LocalOK (P:Program) (o:Oper) (e:Env) (H:Heap) (K:Value->Heap->Option R) (r:R) (cr:Bool):Prop:=
 ∃v nb,K v (H++nb)=some r/\(cr=false->nb= [])/\∀(ρ:Ren) (hp:Nat->Option Blk) (w:World) (a:Act) (Q:Exit->Act->World->Prop),
  Rel ρ hp w->Agree ρ hp H->(∀b,H.length<=b->b < H.length+nb.length->ρ b=none)->Reads ρ e a o->o.wp P a w (LP o a ρ hp w H.length v nb) Q
theorem AG5 {o:Oper} {a:Act} {w:World} {next:Act->World->Prop} {Q:Exit->Act->World->Prop} {v':Value} {w':World}
 (h:(execOp a.eval o).run P w= .ok (.value v') w') (hn:next (a.put o.dst v') w'):o.wp P a w next Q:=by
 unfold Oper.wp;rw [h];exact hn
theorem ABx {o:Oper} {e:Env} {H:Heap} {K:Value->Heap->Option R} {r:R} {cr:Bool} (v:Value) (hK:K v H=some r)
 (h:∀(ρ:Ren) (hp:Nat->Option Blk) (w:World) (a:Act),Rel ρ hp w->Agree ρ hp H->Reads ρ e a o->∃v',V0 ρ v v'/\(execOp a.eval o).run P w= .ok (.value v') w):LocalOK P o e H K r cr:=by
 refine ⟨v, [],by simpa using hK,λ _=> rfl,λ ρ hp w a Q hr ha _ hx=> ?_⟩
 obtain ⟨v',h1,h2⟩:=h ρ hp w a hr ha hx
 exact AG5 h2 ⟨ρ,v',rfl,h1,by rw [ARd];exact .refl hr,λ b hb=> .inl hb⟩
theorem AR2 {ρ:Ren} {hp:Nat->Option Blk} {w w1:World} {n m bz:Nat} {cells:List Value} {arr:Array Value} {el:TypeId} (hr:Rel ρ hp w) (hn:ρ n=none)
 (hc:∀(i:Nat) x,cells[i]? =some x->∃y,arr[i]? =some y/\VRel ρ x y) (hm:m * bz<=arr.size) (hone:cells.all oneC=true) (hw:w1.heap=w.heap.push (.cells arr el)) (ho:w1.os=w.os) (htp:w1.tape=w.tape) (hou:w1.output=w.output):
 Goes ρ hp w (λ b=> if b=n then some (w.heap.size,0,m) else ρ b) (hpu hp n [some ⟨cells,false,bz⟩]) w1:=by
 have hle:Le ρ (λ b=> if b=n then some (w.heap.size,0,m) else ρ b):=by
  intro b x hb
  show (if b=n then _ else _)=_
  rw [if_neg (by rintro rfl;rw [hn] at hb;cases hb)];exact hb
 have hlt:∀b B,hp b=some B->∀x d,At ρ b x d->x < w.heap.size:=by
  intro b B hb x d hx
  obtain ⟨b',d',m',arr,el,fr,e,hw',_⟩:=hr.blk b B hb
  obtain ⟨m2,hx⟩:=hx
  rw [hx] at e;cases e
  exact (Array.getElem?_eq_some_iff.1 hw').1
 have hnew:∀b,hpu hp n [some ⟨cells,false,bz⟩] b=if b=n then some ⟨cells,false,bz⟩ else hp b:=by
  intro b
  unfold hpu
  by_cases e:b=n
  . subst e;simp [hblk]
  . rw [if_neg e,if_neg (by simp;omega)]
 have hat:∀b x d,At (λ b=> if b=n then some (w.heap.size,0,m) else ρ b) b x d->(b=n/\x=w.heap.size)∨(b≠n/\At ρ b x d):=by
  rintro b x d ⟨m',h⟩
  by_cases c:b=n
  . simp only [c,if_true] at h;cases h;exact .inl ⟨c,rfl⟩
  . simp only [c,if_false] at h;exact .inr ⟨c,m',h⟩
 refine ⟨hle,⟨λ b B hb=> ?_,λ b1 B1 b2 B2 x1 d1 x2 d2 k1 k2 hne hro e1 e2=> ?_⟩,⟨ho,htp,hou,by rw [hw];simp,λ c hc' _=> ?_⟩,λ b B x d hb hx=> ?_⟩
 . rw [hnew] at hb
   by_cases e:b=n
   . rw [if_pos e] at hb;cases hb
     refine ⟨w.heap.size,0,m,arr,el,(0,0),by simp [e],by rw [hw];simp,λ i v hv=> ?_,λ _=> ⟨rfl,rfl,hm⟩,hone⟩
     obtain ⟨y,h1,h2⟩:=hc i v hv
     exact ⟨y,by simpa using h1,h2.mono hle⟩
   . rw [if_neg e] at hb
     obtain ⟨b',d,m',arr',el',fr,e1,hw',h3,h4⟩:=hr.blk b B hb
     refine ⟨b',d,m',arr',el',fr,hle _ _ e1, ?_,λ i v hv=> ?_,h4⟩
     . rw [hw,Array.getElem?_push,if_neg (by have:=(Array.getElem?_eq_some_iff.1 hw').1;omega)];exact hw'
     . obtain ⟨y,h5,h6⟩:=h3 i v hv
       exact ⟨y,h5,h6.mono hle⟩
 . rw [hnew] at k1 k2
   rcases hat _ _ _ e1 with ⟨c1,rfl⟩|⟨c1,e1⟩
   . rcases hat _ _ _ e2 with ⟨c2,_⟩|⟨c2,e2⟩
     . exact (hne (c1.trans c2.symm)).elim
     . rw [if_neg c2] at k2
       have:=hlt b2 B2 k2 _ _ e2
       omega
   . rw [if_neg c1] at k1
     rcases hat _ _ _ e2 with ⟨c2,rfl⟩|⟨c2,e2⟩
     . have:=hlt b1 B1 k1 _ _ e1
       omega
     . rw [if_neg c2] at k2
       exact hr.inj b1 B1 b2 B2 x1 d1 x2 d2 k1 k2 hne hro e1 e2
 . rw [hw,Array.getElem?_push,if_neg (by omega)]
 . rw [hnew] at hb
   rcases hat _ _ _ hx with ⟨c1,rfl⟩|⟨c1,hx⟩
   . exact .inl (Nat.le_refl _)
   . rw [if_neg c1] at hb;exact .inr (.inl ⟨B,hb,hx,id⟩)
theorem ARF {o:Oper} {e:Env} {H:Heap} {K:Value->Heap->Option R} {r:R} (v:Value) (cells:List Value) (bz:Nat) (hone:∀(ρ:Ren) (hp:Nat->Option Blk) (w:World),Rel ρ hp w->Agree ρ hp H->(∃a,Reads ρ e a o)->cells.all oneC=true) (hK:K v (H++ [some ⟨cells,false,bz⟩])=some r)
 (h:∀(ρ:Ren) (hp:Nat->Option Blk) (w:World) (a:Act),Rel ρ hp w->Agree ρ hp H->Reads ρ e a o->∃(arr:Array Value) (el:TypeId) (v':Value) (w1:World) (m:Nat),
  (∀(i:Nat) x,cells[i]? =some x->∃y,arr[i]? =some y/\VRel ρ x y)/\m * bz<=arr.size/\(∀ρ':Ren,ρ' H.length=some (w.heap.size,0,m)->V0 ρ' v v')/\
  (execOp a.eval o).run P w= .ok (.value v') w1/\w1.heap=w.heap.push (.cells arr el)/\w1.os=w.os/\w1.tape=w.tape/\w1.output=w.output):LocalOK P o e H K r true:=by
 refine ⟨v, [some ⟨cells,false,bz⟩],hK,(λ h=> by cases h),λ ρ hp w a Q hr ha hfree hx=> ?_⟩
 obtain ⟨arr,el,v',w1,m,h1,hm,h2,h3,h4,h5,h6,h7⟩:=h ρ hp w a hr ha hx
 have hn:ρ H.length=none:=hfree _ (Nat.le_refl _) (by simp)
 refine AG5 h3 ⟨_,v',rfl,h2 _ (by simp),AR2 hr hn h1 hm (hone ρ hp w hr ha ⟨a,hx⟩) h4 h5 h6 h7,λ b hb=> ?_⟩
 by_cases c:b=H.length
 . exact .inr (by simp;omega)
 . simp only [c,if_false] at hb;exact .inl hb
theorem VRel.self {v:Value} (h:ptrFree v=true) (hk:okv v=true) (ρ:Ren):VRel ρ v v:=by
 have hC:∀u,ptrFreeC u=true->VRel ρ u u:=by
  intro u hu
  cases u with
  |bool b=> exact .bool b
  |int k n=> exact .int k n
  |float k b=> exact .flt k b
  |string s=> exact .str s
  |pointer p=> cases p with
   |none=> exact .nilp
   |some p=> simp [ptrFreeC] at hu
  |slice p l c=> cases p with
   |none=> exact .nils l c
   |some p=> simp [ptrFreeC] at hu
  |nilFunc=> exact .nilf
  |nilIface=> exact .nili
  |_=> simp [ptrFreeC] at hu
 cases v with
 |agg cs=>
  refine .agg rfl λ i x y a b=> ?_
  rw [a] at b;cases b
  exact hC x (List.all_eq_true.1 h x (List.mem_of_getElem? a))
 |tuple cs=> simp [okv] at hk
 |_=> exact hC _ h
theorem vx {ρ:Ren} {e:Env} {a:Act} {o:Oper} (h:Reads ρ e a o) {x:Operand} {x':X} (ht:trX x=some x') (hm:x∈o.op.operands):V0 ρ (gx e x') (a.eval x):=by
 cases x with
 |tmp t=> simp [trX] at ht;subst ht;exact h _ hm t rfl
 |const v=>
  simp only [trX] at ht
  cases hv:ptrFree v && okv v with
  |false=> rw [hv] at ht;simp at ht
  |true=>
   rw [hv] at ht;simp at ht;subst ht
   simp at hv
   exact .of (VRel.self hv.1 hv.2 ρ)
 |func f=>
  simp [trX] at ht;subst ht
  exact .of (.func _ rfl (λ i x y q=> by simp at q) rfl (λ i x y q=> by simp at q))
 |global g=> simp [trX] at ht
section pure
variable {o:Oper} {e:Env} {H:Heap} {K:Value->Heap->Option R} {r:R} {cr:Bool} {C:Tab R} {made:List (Nat×Nat×Nat)}
theorem AVq {x:Operand} {x':X} (ho:o.op= .move x∨o.op= .assign x) (hx:trX x=some x') (hr:evOp C made (.mov x') e H K=some r):LocalOK P o e H K r cr:=by
 refine ABx (gx e x') hr λ ρ hp w a _ _ hE=> ⟨a.eval x,vx hE hx (by rcases ho with ho|ho <;> simp [ho,Op.operands]), ?_⟩
 rcases ho with ho|ho <;> simp [execOp,ho]
theorem AYe {c x y:Operand} {c' x' y':X} (ho:o.op= .pick c x y) (hc:trX c=some c') (hx:trX x=some x') (hy:trX y=some y') (hr:evOp C made (.pick c' x' y') e H K=some r):LocalOK P o e H K r cr:=by
 simp only [evOp] at hr
 split at hr
 . rename_i t ht
   cases t with
   |true=>
    refine ABx (gx e x') hr λ ρ hp w a _ _ hE=> ⟨a.eval x,vx hE hx (by simp [ho,Op.operands]), ?_⟩
    have h1:=vx hE hc (by simp [ho,Op.operands])
    rw [ht] at h1
    simp [execOp,ho,h1.bool,asBool]
   |false=>
    refine ABx (gx e y') hr λ ρ hp w a _ _ hE=> ⟨a.eval y,vx hE hy (by simp [ho,Op.operands]), ?_⟩
    have h1:=vx hE hc (by simp [ho,Op.operands])
    rw [ht] at h1
    simp [execOp,ho,h1.bool,asBool]
 . cases hr
theorem AL0 {k k':IntKind} (h:ikeq k k'=true):k=k':=by cases k <;> cases k' <;> first|rfl|cases h
theorem AOU (op:BinOp) (t:TypeId) (x y:Operand) (k k':IntKind) (a b:Int) (w:World):(eqGuard op t x y (.int k a) (.int k' b)).run P w= .ok () w:=by
 cases op <;> simp [eqGuard]
theorem AVS {op:BinOp} {k:IntKind} {a b:Int} {K':Int->Option R} (t:TypeId) (k2:IntKind) (hk:(isShift op||(isArith op && ikeq k k2))=true) (h:hbin op k a b K'=some r):
 ∃n,K' n=some r/\∀w,(binOp op t (.int k a) (.int k2 b)).run P w= .ok (.int k n) w:=by
 cases op <;> simp [isShift,isArith] at hk <;> (try (have e:=AL0 hk;subst e)) <;> simp only [hbin] at h
 case add=> exact ⟨_,h,λ w=> by simp [binOp,Op.intArith]⟩
 case sub=> exact ⟨_,h,λ w=> by simp [binOp,Op.intArith]⟩
 case mul=> exact ⟨_,h,λ w=> by simp [binOp,Op.intArith]⟩
 case quo=>
  split at h
  . cases h
  . rename_i hb;exact ⟨_,h,λ w=> by simp [binOp,Op.intDiv,hb]⟩
 case rem=>
  split at h
  . cases h
  . rename_i hb;exact ⟨_,h,λ w=> by simp [binOp,Op.intDiv,hb]⟩
 case and=> exact ⟨_,h,λ w=> by simp [binOp,Op.intBits]⟩
 case or=> exact ⟨_,h,λ w=> by simp [binOp,Op.intBits]⟩
 case xor=> exact ⟨_,h,λ w=> by simp [binOp,Op.intBits]⟩
 case andNot=> exact ⟨_,h,λ w=> by simp [binOp,Op.intBits]⟩
 case shl=>
  split at h
  . cases h
  . rename_i hb;exact ⟨_,h,λ w=> by simp [binOp,Op.shift,hb]⟩
 case shr=>
  split at h
  . cases h
  . rename_i hb;exact ⟨_,h,λ w=> by simp [binOp,Op.shift,hb]⟩
theorem Abb {op:BinOp} {t t':TypeId} {k:IntKind} {x y:Operand} {x' y':X} (ho:o.op= .binOp op t x y t') (hx:trX x=some x') (hy:trX y=some y') (hr:evOp C made (.bin op k x' y') e H K=some r):LocalOK P o e H K r cr:=by
 simp only [evOp] at hr
 split at hr
 . rename_i k1 a1 k2 a2 e1 e2
   cases hc:ikeq k k1 && (isShift op||(isArith op && ikeq k k2)) with
   |false=> rw [hc] at hr;cases hr
   |true=>
    rw [hc,cond_true] at hr
    rw [Bool.and_eq_true] at hc
    have ek:=AL0 hc.1;subst ek
    obtain ⟨n,h1,h2⟩:=AVS (P:=P) t k2 hc.2 hr
    refine ABx (.int k n) h1 λ ρ hp w a _ _ hE=> ⟨.int k n, .of (.int _ _), ?_⟩
    have q1:=vx hE hx (by simp [ho,Op.operands])
    have q2:=vx hE hy (by simp [ho,Op.operands])
    rw [e1] at q1;rw [e2] at q2
    simp [execOp,ho,q1.int,q2.int,AOU,h2]
 . cases hr
theorem AbW {op:BinOp} {t t':TypeId} {x y:Operand} {x' y':X} {k:IntKind} (hu:P.underlying t=some (.int k)) (ho:o.op= .binOp op t x y t') (hx:trX x=some x') (hy:trX y=some y') (hr:evOp C made (.cmp op x' y') e H K=some r):LocalOK P o e H K r cr:=by
 simp only [evOp] at hr
 split at hr
 . rename_i k1 a1 k2 a2 e1 e2
   cases hc:ikeq k1 k2 && isCmp op with
   |false=> rw [hc] at hr;cases hr
   |true=>
    rw [hc,cond_true] at hr
    rw [Bool.and_eq_true] at hc
    have ek:=AL0 hc.1;subst ek
    refine ABx _ hr λ ρ hp w a _ _ hE=> ⟨_, .of (.bool _), ?_⟩
    have q1:=vx hE hx (by simp [ho,Op.operands])
    have q2:=vx hE hy (by simp [ho,Op.operands])
    rw [e1] at q1;rw [e2] at q2
    have hop:=hc.2
    cases op <;> first|(simp [isCmp] at hop;done)|simp [execOp,ho,q1.int,q2.int,AOU,binOp,Op.intCmp,hcmp]
 . cases hr
theorem AVs {op:BinOp} {neg:Bool} {t t':TypeId} {x y:Operand} {x' y':X} (hop:op=if neg then .neq else .eql) (hu:P.underlying t=some .bool) (ho:o.op= .binOp op t x y t') (hx:trX x=some x') (hy:trX y=some y') (hr:evOp C made (.eqb x' y' neg) e H K=some r):LocalOK P o e H K r cr:=by
 simp only [evOp] at hr
 split at hr
 . rename_i a1 a2 e1 e2
   refine ABx _ hr λ ρ hp w a _ _ hE=> ⟨_, .of (.bool _), ?_⟩
   have q1:=vx hE hx (by simp [ho,Op.operands])
   have q2:=vx hE hy (by simp [ho,Op.operands])
   rw [e1] at q1;rw [e2] at q2
   subst hop
   cases neg <;> simp [execOp,ho,q1.bool,q2.bool,eqGuard_at_bool,run_eql_bool _ _ _ _ hu,run_neq_bool _ _ _ _ hu]
 . cases hr
theorem AYg {t:TypeId} {x:Operand} {x':X} (ho:o.op= .unOp .not t x) (hx:trX x=some x') (hr:evOp C made (.lnot x') e H K=some r):LocalOK P o e H K r cr:=by
 simp only [evOp] at hr
 split at hr
 . rename_i a1 e1
   refine ABx _ hr λ ρ hp w a _ _ hE=> ⟨_, .of (.bool _), ?_⟩
   have q1:=vx hE hx (by simp [ho,Op.operands])
   rw [e1] at q1
   simp [execOp,ho,q1.bool,Op.unary]
 . cases hr
theorem AbF {t:TypeId} {k:IntKind} {x:Operand} {x':X} (ho:o.op= .unOp .neg t x) (hx:trX x=some x') (hr:evOp C made (.neg k x') e H K=some r):LocalOK P o e H K r cr:=by
 simp only [evOp] at hr
 split at hr
 . rename_i k1 a1 e1
   cases hc:ikeq k k1 with
   |false=> rw [hc] at hr;cases hr
   |true=>
    rw [hc,cond_true] at hr
    have ek:=AL0 hc;subst ek
    refine ABx _ hr λ ρ hp w a _ _ hE=> ⟨_, .of (.int _ _), ?_⟩
    have q1:=vx hE hx (by simp [ho,Op.operands])
    rw [e1] at q1
    simp [execOp,ho,q1.int,Op.unary,Op.intArith]
 . cases hr
theorem ARL {t e:TypeId} (d:Nat) (p:Option Addr) (hu:P.underlying t=some (.pointer e)) (w:World):(Op.equalIn (d+1) t (.pointer p) (.pointer none)).run P w= .ok p.isNone w:=by
 cases p <;> simp [Op.equalIn,run_underlying hu]
theorem ARK {t e:TypeId} (d:Nat) (p:Option Addr) (l c l' c':Nat) (hu:P.underlying t=some (.slice e)) (w:World):(Op.equalIn (d+1) t (.slice p l c) (.slice none l' c')).run P w= .ok p.isNone w:=by
 cases p <;> simp [Op.equalIn,run_underlying hu]
theorem ARM {t:TypeId} {x y z} (d:Nat) (hu:P.underlying t=some (.func x y z)) (w:World):(Op.equalIn (d+1) t .nilFunc .nilFunc).run P w= .ok true w:=by
 simp [Op.equalIn,run_underlying hu]
theorem AQx {t:TypeId} {x y z} (d:Nat) (f a b) (hu:P.underlying t=some (.func x y z)) (w:World):(Op.equalIn (d+1) t (.func f a b) .nilFunc).run P w= .ok false w:=by
 simp [Op.equalIn,run_underlying hu]
theorem AKl {t:TypeId} {x y:Value} {b:Bool} {w:World} (h:(Op.equalIn (9999+1) t x y).run P w= .ok b w) (hx:∀k n,x≠ .int k n) (hx':∀k n,x≠ .float k n) (hx2:∀k n m,x≠ .complex k n m) (hx3:∀s,x≠ .string s) (hy:∀k n,y≠ .int k n) (op:BinOp) (neg:Bool) (hop:op=if neg then .neq else .eql):
 (binOp op t x y).run P w= .ok (.bool (bif neg then !b else b)) w:=by
 subst hop
 have h2:(Op.equal t x y).run P w= .ok b w:=h
 cases neg with
 |false=>
  cases x <;> first|(exfalso;exact hx _ _ rfl)|(exfalso;exact hx' _ _ rfl)|(exfalso;exact hx2 _ _ _ rfl)|(exfalso;exact hx3 _ rfl)|
   (cases y <;> first|(exfalso;exact hy _ _ rfl)|simp [binOp,h2])
 |true=>
  cases x <;> first|(exfalso;exact hx _ _ rfl)|(exfalso;exact hx' _ _ rfl)|(exfalso;exact hx2 _ _ _ rfl)|(exfalso;exact hx3 _ rfl)|
   (cases y <;> first|(exfalso;exact hy _ _ rfl)|simp [binOp,h2])
theorem ANG {op:BinOp} {neg:Bool} {t t':TypeId} {x y:Operand} {x':X} (hop:op=if neg then .neq else .eql)
 (hy:((∃d,P.underlying t=some (.pointer d))/\y= .const (.pointer none))∨((∃d,P.underlying t=some (.slice d))/\∃l c,y= .const (.slice none l c))∨((∃a b c,P.underlying t=some (.func a b c))/\y= .const .nilFunc))
 (ho:o.op= .binOp op t x y t') (hx:trX x=some x') (hr:evOp C made (.eqnil x' neg (match y with| .const (.pointer none)=> 0| .const .nilFunc=> 2|_=> 1)) e H K=some r):LocalOK P o e H K r cr:=by
 rcases hy with ⟨⟨d,hu⟩,rfl⟩|⟨⟨d,hu⟩,l,c,rfl⟩|⟨⟨a1,b1,c1,hu⟩,rfl⟩
 . simp only [evOp] at hr
   split at hr
   . rename_i p e1 _
     refine ABx _ hr λ ρ hp w a _ _ hE=> ⟨_, .of (.bool _), ?_⟩
     have q1:=vx hE hx (by simp [ho,Op.operands])
     rw [e1] at q1
     have q2:∃p',a.eval x= .pointer p'/\p'.isNone=p.isNone:=by
      cases p with
      |none=> exact ⟨none,q1.nil,rfl⟩
      |some p=> obtain ⟨b,o,s⟩:=p;obtain ⟨_,b',d',_,h⟩:=q1.ptr;exact ⟨_,h,rfl⟩
     obtain ⟨p',h1,h2⟩:=q2
     have h3:=AKl (ARL (P:=P) 9999 p' hu w) (by simp) (by simp) (by simp) (by simp) (by simp) op neg hop
     have e3:a.eval (.const (.pointer none))= .pointer none:=rfl
     simp [execOp,ho,h1,e3,eqGuard_at_pointer,h3]
     cases p' <;> cases p <;> cases neg <;> simp_all
   all_goals first|(simp_all;done)|cases hr
 . simp only [evOp] at hr
   split at hr
   . simp_all
   . rename_i p l' c' e1 _
     refine ABx _ hr λ ρ hp w a _ _ hE=> ⟨_, .of (.bool _), ?_⟩
     have q1:=vx hE hx (by simp [ho,Op.operands])
     rw [e1] at q1
     have q2:∃p' l2 c2,a.eval x= .slice p' l2 c2/\p'.isNone=p.isNone:=by
      cases p with
      |none=> exact ⟨none,_,_,q1.nils,rfl⟩
      |some p=> obtain ⟨_,_,h,_⟩:=q1.slx;exact ⟨_,_,_,h,rfl⟩
     obtain ⟨p',l2,c2,h1,h2⟩:=q2
     have h3:=AKl (ARK (P:=P) 9999 p' l2 c2 l c hu w) (by simp) (by simp) (by simp) (by simp) (by simp) op neg hop
     have e3:a.eval (.const (.slice none l c))= .slice none l c:=rfl
     simp [execOp,ho,h1,e3,eqGuard_at_slice,h3]
     cases p' <;> cases p <;> cases neg <;> simp_all
   all_goals first|(simp_all;done)|cases hr
 . simp only [evOp] at hr
   split at hr
   . simp_all
   . simp_all
   . rename_i e1 _
     refine ABx _ hr λ ρ hp w a _ _ hE=> ⟨_, .of (.bool _), ?_⟩
     have q1:=vx hE hx (by simp [ho,Op.operands])
     rw [e1] at q1
     have h1:a.eval x= .nilFunc:=q1.nilf
     have h3:=AKl (ARM (P:=P) 9999 hu w) (by simp) (by simp) (by simp) (by simp) (by simp) op neg hop
     have e3:a.eval (.const .nilFunc)= .nilFunc:=rfl
     simp [execOp,ho,h1,e3,eqGuard_at_nilFunc,h3]
   . rename_i f x1 x2 e1 _
     refine ABx _ hr λ ρ hp w a _ _ hE=> ⟨_, .of (.bool _), ?_⟩
     have q1:=vx hE hx (by simp [ho,Op.operands])
     rw [e1] at q1
     have h1:∃g y1 y2,a.eval x= .func g y1 y2:=by obtain ⟨u1,u2,h,_⟩:=q1.func;exact ⟨_,_,_,h⟩
     obtain ⟨g,y1,y2,h1⟩:=h1
     have h3:=AKl (AQx (P:=P) 9999 g y1 y2 hu w) (by simp) (by simp) (by simp) (by simp) (by simp) op neg hop
     have e3:a.eval (.const .nilFunc)= .nilFunc:=rfl
     simp [execOp,ho,h1,e3,eqGuard_at_func,h3]
   all_goals first|(simp_all;done)|cases hr
end pure
variable {P:Program} {R:Type}
theorem AIH (H:Heap) (b:Nat):hblk H b=(H[b]?).join:=by
 induction H generalizing b with
 |nil=> simp [hblk]
 |cons x l ih=> cases b with
  |zero=> simp [hblk]
  |succ b=> simp [hblk,ih]
theorem AIM {H:Heap} {b:Nat} {B:Blk} (h:hblk H b=some B):b < H.length:=by
 rw [AIH] at h
 cases e:H[b]? with
 |none=> rw [e] at h;simp at h
 |some x=> exact (List.getElem?_eq_some_iff.1 e).1
theorem ATg {H:Heap} {b o:Nat} {v:Value} (h:hcell H b o=some v):∃B,hblk H b=some B/\B.cells[o]? =some v:=by
 unfold hcell at h
 split at h
 . exact ⟨_,‹_›,h⟩
 . cases h
theorem ASG {ρ:Ren} {hp:Nat->Option Blk} {w:World} {H:Heap} (hr:Rel ρ hp w) (ha:Agree ρ hp H) {b o b' d:Nat} {v:Value} (hb:At ρ b b' d) (hc:hcell H b o=some v):
 ∃v',w.cell? ⟨b',d+o,none⟩=some v'/\VRel ρ v v':=by
 obtain ⟨B,h1,h2⟩:=ATg hc
 exact hr.cell ((ha b (AIM h1) hb.ne).trans h1) h2 hb
theorem ATX {s:SK} {H:Heap} {a:Option Addr} {K:Value->Option R} {r:R} (h:ldS s H a K=some r):∃b o sp v,a=some ⟨b,o,sp⟩/\hcell H b o=some v/\K v=some r:=by
 cases s with
 |int k=>
  simp only [ldS,ldI] at h
  split at h
  . rename_i b o sp
    split at h
    . rename_i k' n hc
      cases e:ikeq k k' with
      |false=> rw [e] at h;cases h
      |true=> rw [e,cond_true] at h;have:=AL0 e;subst this;exact ⟨b,o,sp,_,rfl,hc,h⟩
    . cases h
  . cases h
 |_=>
  simp only [ldS,ldB,ldP,ldL,ldT,ldV] at h
  split at h
  . rename_i b o sp
    split at h
    . rename_i hc
      exact ⟨b,o,sp,_,rfl,hc,h⟩
    . cases h
  . cases h
theorem Abm {H:Heap} {b o:Nat} {sp:Option Nat}:∀ {ks:List SK} {i:Nat} {K:List Value->Option R} {r:R},ldN ks H (some ⟨b,o,sp⟩) i K=some r->
 ∃vs:List Value,vs.length=ks.length/\(∀(j:Nat) v,vs[j]? =some v->hcell H b (o+(i+j))=some v)/\K vs=some r:=by
 intro ks
 induction ks with
 |nil=> intro i K r h;exact ⟨[],rfl,λ j v hv=> by simp at hv,h⟩
 |cons s ks ih=>
  intro i K r h
  simp only [ldN] at h
  obtain ⟨b2,o2,sp2,v,e,hc,hk⟩:=ATX h
  simp only [pad] at e;cases e
  obtain ⟨vs,h1,h2,h3⟩:=ih hk
  refine ⟨v::vs,by simp [h1],λ j u hu=> ?_,h3⟩
  cases j with
  |zero=> simp at hu;subst hu;simpa using hc
  |succ j=> simp at hu;have:=h2 j u hu;rwa [show i+1+j=i+(j+1) from by omega] at this
theorem AT2 {s:SK} {v:Value} {K:Value->Option R} {r:R} (h:asS s v K=some r):K v=some r:=by
 cases s <;> cases v <;> simp only [asS] at h <;> first|exact h|cases h|skip
 rename_i k k' n
 cases e:ikeq k k' with
 |false=> rw [e] at h;cases h
 |true=> rw [e,cond_true] at h;have:=AL0 e;subst this;exact h
theorem AV6:∀ {ks:List SK} {vs:List Value} {K:List Value->Option R} {r:R},asN ks vs K=some r->K vs=some r:=by
 intro ks
 induction ks with
 |nil=> intro vs K r h;cases vs with
  |nil=> exact h
  |cons v vs=> cases h
 |cons s ks ih=> intro vs K r h;cases vs with
  |nil=> cases h
  |cons v vs=> simp only [asN] at h;exact ih (K:=λ vs=> K (v::vs)) (AT2 h)
theorem AV7 {k:VK} {v:Value} {K:Value->Option R} {r:R} (h:asK k v K=some r):K v=some r:=by
 cases k with
 |sc s=> exact AT2 h
 |agg ks=> cases v <;> simp only [asK] at h <;> first|(cases h;done)|exact AV6 h
theorem Ab8:∀ {ks:List VK} {vs:List Value} {K:List Value->Option R} {r:R},asT ks vs K=some r->K vs=some r:=by
 intro ks
 induction ks with
 |nil=> intro vs K r h;cases vs with
  |nil=> exact h
  |cons v vs=> cases h
 |cons s ks ih=> intro vs K r h;cases vs with
  |nil=> cases h
  |cons v vs=> simp only [asT] at h;exact ih (K:=λ vs=> K (v::vs)) (AV7 h)
theorem ANR (b o n:Nat):(⟨b,o,none⟩:Addr).add n=⟨b,o+n,none⟩:=by
 unfold Addr.add;split
 . rename_i h;subst h;rfl
 . rfl
theorem AFW {t:TypeId} {n:Nat} (h:sz P t=some n) (w:World):(sizeOf t).run P w= .ok n w:=by
 unfold sz at h
 cases e:P.info? t with
 |none=> rw [e] at h;cases h
 |some i=> rw [e] at h;simp at h;simp [sizeOf,typeInfo,e,h]
theorem AMi {t:TypeId} {d:TypeDesc} (h:P.underlying t=some d) (w:World):(isAgg t).run P w= .ok (isAg P t) w:=by
 unfold isAgg isAg
 rw [h]
 cases d <;> simp [run_underlying h]
section pure
variable {o:Oper} {e:Env} {H:Heap} {K:Value->Heap->Option R} {r:R} {cr:Bool} {C:Tab R} {made:List (Nat×Nat×Nat)}
theorem AR4 {u:TypeId} {n:Nat} {d:TypeDesc} {p:Option Addr} {K':Value->Option R} (hu:P.underlying u=some d) (hs:sz P u=some n) (hk:isAg P u=true->(kinds P 6 u).length=n/\n≠0)
 (hr:(match vkOf P u with
  | .sc s=> ldS s H p K'
  | .agg ks=> ldN ks H p 0 λ vs=> K' (.agg ⟨vs⟩))=some r):
 ∃v,K' v=some r/\∀(ρ:Ren) (hp:Nat->Option Blk) (w:World) (av:Value),Rel ρ hp w->Agree ρ hp H->V0 ρ (.pointer p) av->∃a' v',av= .pointer (some a')/\VRel ρ v v'/\(loadVar u a').run P w= .ok v' w:=by
 cases hA:isAg P u with
 |false=>
  simp only [vkOf,hA,cond_false] at hr
  obtain ⟨b,o',sp,v,e2,hc,hk⟩:=ATX hr
  subst e2
  refine ⟨v,hk,λ ρ hp w av hR hG q1=> ?_⟩
  obtain ⟨rfl,b',d',h1,h2⟩:=q1.ptr
  obtain ⟨v',h3,h4⟩:=ASG hR hG h1 hc
  exact ⟨_,v',h2,h4,by simp [loadVar,AMi hu,hA,h3]⟩
 |true=>
  obtain ⟨hk1,hk2⟩:=hk hA
  simp only [vkOf,hA,cond_true] at hr
  cases p with
  |none=>
   cases hks:kinds P 6 u with
   |nil=> rw [hks] at hk1;simp at hk1;exact (hk2 hk1.symm).elim
   |cons s ks=> rw [hks] at hr;simp only [ldN] at hr;obtain ⟨_,_,_,_,h,_⟩:=ATX hr;simp [pad] at h
  |some p=>
   obtain ⟨b,o',sp⟩:=p
   obtain ⟨vs,hl,hc,hk⟩:=Abm hr
   refine ⟨.agg ⟨vs⟩,hk,λ ρ hp w av hR hG q1=> ?_⟩
   obtain ⟨rfl,b',d',h1,h2⟩:=q1.ptr
   have hcs:∀j,j < vs.length->∃v',w.cell? ⟨b',d'+o'+j,none⟩=some v'/\VRel ρ (vs.getD j undef) v':=λ j hj=> by
    have:=ASG hR hG h1 (hc j _ (List.getElem?_eq_getElem hj))
    simp at this
    rw [show d'+(o'+j)=d'+o'+j from by omega] at this
    obtain ⟨v',a1,a2⟩:=this
    exact ⟨v',a1,by simpa [List.getD_eq_getElem?_getD,hj] using a2⟩
   let us:List Value:=(List.range vs.length).map λ j=> (w.cell? ⟨b',d'+o'+j,none⟩).getD undef
   have hus:∀(j:Nat) v,us[j]? =some v->w.cell? ((⟨b',d'+o',none⟩:Addr).add j)=some v:=λ j v hv=> by
    have hj:j < vs.length:=by have:=(List.getElem?_eq_some_iff.1 hv).1;simpa [us] using this
    obtain ⟨v',a1,_⟩:=hcs j hj
    rw [ANR]
    simp [us,hj,a1] at hv
    rw [a1,hv]
   have hlen:us.length=n:=by simp [us,hl,hk1]
   refine ⟨⟨b',d'+o',none⟩, .agg ⟨us⟩,h2, .agg (by simp [us]) λ j y z hy hz=> ?_, ?_⟩
   . have hj:j < vs.length:=(List.getElem?_eq_some_iff.1 hy).1
     obtain ⟨v',a1,a2⟩:=hcs j hj
     simp [us,hj,a1] at hz
     subst hz
     have:vs.getD j undef=y:=by simp [List.getD_eq_getElem?_getD,hy]
     rwa [this] at a2
   . have:=run_loadCells_list (P:=P) (w:=w) ⟨b',d'+o',none⟩ us hus
     rw [hlen] at this
     simp [loadVar,AMi hu,hA,AFW hs,this]
theorem AbJ {u:TypeId} {x:Operand} {x':X} {n:Nat} {d:TypeDesc} (hu:P.underlying u=some d) (hs:sz P u=some n) (hk:isAg P u=true->(kinds P 6 u).length=n/\n≠0)
 (ho:o.op= .load u x) (hx:trX x=some x') (hr:evOp C made (.ld (vkOf P u) x') e H K=some r):LocalOK P o e H K r cr:=by
 simp only [evOp] at hr
 split at hr
 . rename_i p e1
   obtain ⟨v,h1,h2⟩:=AR4 (K':=λ v=> K v H) hu hs hk hr
   refine ABx v h1 λ ρ hp w a hR hG hE=> ?_
   have q1:=vx hE hx (by simp [ho,Op.operands])
   rw [e1] at q1
   obtain ⟨a',v',g1,g2,g3⟩:=h2 ρ hp w _ hR hG q1
   exact ⟨v', .of g2,by simp [execOp,ho,g1,Instr.loadAt,Instr.sureAddr,g3]⟩
 . cases hr
theorem AYf {x:Operand} {x':X} (ho:o.op= .nilCheck x) (hx:trX x=some x') (hr:evOp C made (.nilc x') e H K=some r):LocalOK P o e H K r cr:=by
 simp only [evOp] at hr
 split at hr
 . rename_i p e1
   cases p with
   |none=> cases hr
   |some p=>
    refine ABx _ hr λ ρ hp w a _ _ hE=> ?_
    have q1:=vx hE hx (by simp [ho,Op.operands])
    rw [e1] at q1
    obtain ⟨b,o',s⟩:=p
    obtain ⟨_,b',d',_,h⟩:=q1.ptr
    exact ⟨_,q1,by simp [execOp,ho,h]⟩
 . rename_i f fs cs e1
   refine ABx _ hr λ ρ hp w a _ _ hE=> ?_
   have q1:=vx hE hx (by simp [ho,Op.operands])
   rw [e1] at q1
   obtain ⟨xs,ys,h,_⟩:=q1.func
   exact ⟨_,q1,by simp [execOp,ho,h]⟩
 . cases hr
theorem AbP {u:TypeId} {x:Operand} {x':X} {f n:Nat} {fs:Array Field} {fd:Field} (hu:P.underlying u=some (.struct fs)) (hf:fs[f]? =some fd) (hs:sz P fd.type=some n) (hn:n≠0)
 (ho:o.op= .fieldAddr u x f) (hx:trX x=some x') (hr:evOp C made (.fad fd.offset x') e H K=some r):LocalOK P o e H K r cr:=by
 simp only [evOp] at hr
 split at hr
 . rename_i p e1
   cases p with
   |none=> cases hr
   |some p=>
    obtain ⟨b,o',s⟩:=p
    refine ABx _ hr λ ρ hp w a _ _ hE=> ?_
    have q1:=vx hE hx (by simp [ho,Op.operands])
    rw [e1] at q1
    obtain ⟨_,b',d',h1,h⟩:=q1.ptr
    refine ⟨_, .of (.ptr h1), ?_⟩
    simp [execOp,ho,h,Instr.fieldAt,run_underlying hu,hf,Instr.sureAddr,fieldPlace,AFW hs,hn,ANR,Nat.add_assoc]
 . cases hr
theorem AbM {u el:TypeId} {x i:Operand} {x' i':X} {n:Nat} (hu:P.underlying u=some (.slice el)) (hs:sz P el=some n)
 (ho:o.op= .indexAddr u x i) (hx:trX x=some x') (hi:trX i=some i') (hr:evOp C made (.ids n x' i') e H K=some r):LocalOK P o e H K r cr:=by
 simp only [evOp] at hr
 split at hr
 . rename_i p l c k m e1 e2
   simp only [hidx] at hr
   split at hr
   . rename_i b o' s
     split at hr
     . rename_i hb
       refine ABx _ hr λ ρ hp w a _ _ hE=> ?_
       have q1:=vx hE hx (by simp [ho,Op.operands])
       have q2:=vx hE hi (by simp [ho,Op.operands])
       rw [e1] at q1;rw [e2] at q2
       obtain ⟨_,b',d',c',h1,h,_⟩:=q1.slc (by omega)
       refine ⟨_, .of (.ptr h1), ?_⟩
       simp [execOp,ho,h,q2.int,Instr.indexAt,asIntOf,run_underlying hu,hb,AFW hs,ANR,Nat.add_assoc]
     . cases hr
   . cases hr
 . cases hr
theorem AbN {u el:TypeId} {x i:Operand} {x' i':X} {n m:Nat} (hu:P.underlying u=some (.array m el)) (hs:sz P el=some n)
 (ho:o.op= .indexAddr u x i) (hx:trX x=some x') (hi:trX i=some i') (hr:evOp C made (.ida m n x' i') e H K=some r):LocalOK P o e H K r cr:=by
 simp only [evOp] at hr
 split at hr
 . rename_i p k m e1 e2
   simp only [hidx] at hr
   split at hr
   . rename_i b o' s
     split at hr
     . rename_i hb
       refine ABx _ hr λ ρ hp w a _ _ hE=> ?_
       have q1:=vx hE hx (by simp [ho,Op.operands])
       have q2:=vx hE hi (by simp [ho,Op.operands])
       rw [e1] at q1;rw [e2] at q2
       obtain ⟨_,b',d',h1,h⟩:=q1.ptr
       refine ⟨_, .of (.ptr h1), ?_⟩
       simp [execOp,ho,h,q2.int,Instr.indexAt,asIntOf,run_underlying hu,hb,Instr.sureAddr,AFW hs,ANR,Nat.add_assoc]
     . cases hr
   . cases hr
 . cases hr
def partV (P:Program) (t:TypeId) (n:Nat) (cs:List Value) (off:Nat):Option Value:=bif isAg P t then some (.agg ⟨(cs.drop off).take n⟩) else cs[off]?
theorem AR1 {t:TypeId} {n off:Nat} {cs:List Value} {K':Value->Option R}
 (hr:(match vkOf P t with
  | .sc s=> (match cs[off]? with|some v=> asS s v K'|none=> none)
  | .agg ks=> asN ks ((cs.drop off).take n) λ vs=> K' (.agg ⟨vs⟩))=some r):∃v,partV P t n cs off=some v/\K' v=some r:=by
 cases hA:isAg P t with
 |false=>
  simp only [vkOf,hA,cond_false] at hr
  split at hr
  . rename_i v hv
    exact ⟨v,by simp [partV,hA,hv],AT2 hr⟩
  . cases hr
 |true=>
  simp only [vkOf,hA,cond_true] at hr
  exact ⟨_,by simp [partV,hA],AV6 hr⟩
theorem AR0 {ρ:Ren} {t:TypeId} {d:TypeDesc} {n off:Nat} {cs:List Value} {ds:Array Value} {v:Value} (hd:P.underlying t=some d) (hs:sz P t=some n) (hl:LRel ρ cs ds.toList)
 (hv:partV P t n cs off=some v):∃v',VRel ρ v v'/\∀w,(part t ds off).run P w= .ok v' w:=by
 cases hA:isAg P t with
 |false=>
  simp only [partV,hA,cond_false] at hv
  obtain ⟨y,h1,h2⟩:=hl.get hv
  have h1':ds[off]? =some y:=by simpa using h1
  exact ⟨y,h2,λ w=> by simp [part,AMi hd,hA,h1']⟩
 |true=>
  simp only [partV,hA,cond_true] at hv
  cases hv
  refine ⟨.agg (ds.extract off (off+n)), ?_,λ w=> ?_⟩
  . have h2:=(hl.drop off).take n
    have e1:ds.extract off (off+n)=⟨(ds.toList.drop off).take n⟩:=by
     apply Array.ext'
     simp [List.extract_eq_take_drop]
    rw [e1]
    exact .agg h2.1 h2.2
  . simp [part,AMi hd,hA,AFW hs]
end pure
variable {P:Program} {R:Type}
section pure
variable {o:Oper} {e:Env} {H:Heap} {K:Value->Heap->Option R} {r:R} {cr:Bool} {C:Tab R} {made:List (Nat×Nat×Nat)}
theorem AbK {u el:TypeId} {d:TypeDesc} {x i:Operand} {x' i':X} {n m:Nat} (hu:P.underlying u=some (.array m el)) (hd:P.underlying el=some d) (hs:sz P el=some n)
 (ho:o.op= .index u x i) (hx:trX x=some x') (hi:trX i=some i') (hr:evOp C made (.idv m n (vkOf P el) x' i') e H K=some r):LocalOK P o e H K r cr:=by
 simp only [evOp] at hr
 split at hr
 . rename_i cs k q e1 e2
   split at hr
   . rename_i hb
     obtain ⟨v,h1,h2⟩:=AR1 (K':=λ v=> K v H) hr
     refine ABx v h2 λ ρ hp w a _ _ hE=> ?_
     have q1:=vx hE hx (by simp [ho,Op.operands])
     have q2:=vx hE hi (by simp [ho,Op.operands])
     rw [e1] at q1;rw [e2] at q2
     obtain ⟨ds,h3,h4⟩:=q1.agg
     obtain ⟨v',h5,h6⟩:=AR0 hd hs h4 h1
     refine ⟨v', .of h5, ?_⟩
     simp [execOp,ho,h3,q2.int,Instr.index,asIntOf,run_underlying hu,hb,AFW hs,h6]
   . cases hr
 . cases hr
theorem AbO {u:TypeId} {d:TypeDesc} {x:Operand} {x':X} {f n:Nat} {fs:Array Field} {fd:Field} (hu:P.underlying u=some (.struct fs)) (hf:fs[f]? =some fd) (hs:sz P fd.type=some n) (hd:P.underlying fd.type=some d)
 (ho:o.op= .field u x f) (hx:trX x=some x') (hr:evOp C made (.fld fd.offset n (vkOf P fd.type) x') e H K=some r):LocalOK P o e H K r cr:=by
 simp only [evOp] at hr
 split at hr
 . rename_i cs e1
   obtain ⟨v,h1,h2⟩:=AR1 (K':=λ v=> K v H) hr
   refine ABx v h2 λ ρ hp w a _ _ hE=> ?_
   have q1:=vx hE hx (by simp [ho,Op.operands])
   rw [e1] at q1
   obtain ⟨ds,h3,h4⟩:=q1.agg
   obtain ⟨v',h5,h6⟩:=AR0 hd hs h4 h1
   refine ⟨v', .of h5, ?_⟩
   simp [execOp,ho,h3,Instr.field,run_underlying hu,hf,asAgg,h6]
 . cases hr
theorem AbQ {x:Operand} {x':X} {i:Nat} (ho:o.op= .extract x i) (hx:trX x=some x') (hr:evOp C made (.ext i x') e H K=some r):LocalOK P o e H K r cr:=by
 simp only [evOp] at hr
 split at hr
 . rename_i cs e1
   split at hr
   . rename_i v hv
     cases hk:okv v with
     |false=> rw [hk] at hr;cases hr
     |true=>
      rw [hk,cond_true] at hr
      refine ABx v hr λ ρ hp w a _ _ hE=> ?_
      have q1:=vx hE hx (by simp [ho,Op.operands])
      rw [e1] at q1
      obtain ⟨cs⟩:=cs
      have hcs:cs[i]? =some v:=by simpa using hv
      rcases q1 with q|q|q
      . simp [undef] at q;subst q;simp at hcs
      . have:=q.1;simp [skp] at this;subst this
        cases i with
        |zero=> simp at hcs;subst hcs;simp [okv] at hk
        |succ i=> simp at hcs
      . generalize ha:a.eval x=av at q
        cases q with
        |@tup _ ys l k=>
         obtain ⟨y,h1,h2⟩:=LRel.get ⟨l,k⟩ hcs
         exact ⟨y, .of h2,by simp [execOp,ho,ha,Instr.extract,h1]⟩
   . cases hr
 . cases hr
theorem AbV {u v:TypeId} {d:TypeDesc} {k:IntKind} {x:Operand} {x':X} (hu:P.underlying u=some d) (hv:P.underlying v=some (.int k)) (ho:o.op= .convert u v x) (hx:trX x=some x') (hr:evOp C made (.cnv k x') e H K=some r):LocalOK P o e H K r cr:=by
 simp only [evOp] at hr
 split at hr
 . rename_i k0 n e1
   refine ABx _ hr λ ρ hp w a _ _ hE=> ⟨_, .of (.int _ _), ?_⟩
   have q1:=vx hE hx (by simp [ho,Op.operands])
   rw [e1] at q1
   simp [execOp,ho,q1.int,convert,run_underlying hu,run_underlying hv,Conv.intToInt]
 . cases hr
theorem ANC {ρ:Ren} {a:Act} (hE:Reads ρ e a o):∀ {xs:List Operand} {ys:List X},trXs xs=some ys->(∀x∈xs,x∈o.op.operands)->allOk (gxs e ys)=true->LRel ρ (gxs e ys) (xs.map a.eval):=by
 intro xs
 induction xs with
 |nil=> intro ys h _ _;simp [trXs] at h;subst h;exact .nil
 |cons x xs ih=>
  intro ys h hm hk
  simp only [trXs] at h
  split at h
  . rename_i y zs h1 h2
    cases h
    simp only [gxs,allOk] at hk ⊢
    cases hy:okv (gx e y) with
    |false=> rw [hy] at hk;cases hk
    |true=>
     rw [hy,cond_true] at hk
     exact .cons ((vx hE h1 (hm x (by simp))).rel hy) (ih h2 (λ z hz=> hm z (by simp [hz])) hk)
  . cases h
theorem AbH {f:FuncId} {caps:Array Operand} {xs:List X} (ho:o.op= .makeFunc (.func f) #[] caps) (hx:trXs caps.toList=some xs) (hr:evOp C made (.mkf f xs) e H K=some r):LocalOK P o e H K r cr:=by
 simp only [evOp] at hr
 cases hk:allOk (gxs e xs) with
 |false=> rw [hk] at hr;cases hr
 |true=>
  rw [hk,cond_true] at hr
  refine ABx _ hr λ ρ hp w a _ _ hE=> ?_
  have h1:=ANC hE hx (λ x hx=> by simp [ho,Op.operands];simpa using hx) hk
  refine ⟨.func (.func f) #[] ⟨caps.toList.map a.eval⟩, .of (.func _ rfl (λ i x y q=> by simp at q) h1.1 h1.2), ?_⟩
  have e2:Array.map a.eval caps=⟨caps.toList.map a.eval⟩:=Array.ext' (by simp)
  simp [execOp,ho,Instr.makeFunc,e2]
theorem AF7 (P:Program) {b:Builtin} {c:Call} (hc:c.callee= .builtin b) (ho:o.op= .call c):∃cs:Array Bool,∀(a:Act) (w:World),(execOp a.eval o).run P w=(builtin b c.argTypes o.type cs (c.args.map a.eval)).run P w:=by
 refine ⟨c.args.map λ x=> match x with| .const _=> true|_=> false,λ a w=> ?_⟩
 simp [execOp,ho,resolve,hc,invoke]
 rfl
theorem AbI {c:Call} {u d:TypeId} {x:Operand} {x':X} (hc:c.callee= .builtin .len) (ht:c.argTypes.toList= [u]) (ha:c.args.toList= [x]) (hu:P.underlying u=some (.slice d))
 (ho:o.op= .call c) (hx:trX x=some x') (hr:evOp C made (.len false x') e H K=some r):LocalOK P o e H K r cr:=by
 have ht':c.argTypes= #[u]:=Array.ext' ht
 have ha':c.args= #[x]:=Array.ext' ha
 have hm:x∈o.op.operands:=by simp [ho,Op.operands,Call.operands,hc,ha']
 simp only [evOp] at hr
 split at hr
 . rename_i p l cp e1 _
   refine ABx _ hr λ ρ hp w a _ _ hE=> ⟨_, .of (.int _ _), ?_⟩
   have q1:=vx hE hx hm
   rw [e1] at q1
   have q2:∃p' c',a.eval x= .slice p' l c':=by
    cases p with
    |none=> exact ⟨_,_,q1.nils⟩
    |some p=> obtain ⟨_,_,h,_⟩:=q1.slx;exact ⟨_,_,h⟩
   obtain ⟨p',c',h⟩:=q2
   obtain ⟨cs,hb⟩:=AF7 P hc ho
   rw [hb]
   simp [builtin,ht',ha',h,Builtin.len_,run_underlying hu,goInt]
 . simp_all
 . cases hr
theorem AYh {c:Call} {u:TypeId} {x:Operand} {x':X} (hc:c.callee= .builtin .len) (ht:c.argTypes.toList= [u]) (ha:c.args.toList= [x]) (hu:P.underlying u=some .string)
 (ho:o.op= .call c) (hx:trX x=some x') (hr:evOp C made (.len true x') e H K=some r):LocalOK P o e H K r cr:=by
 have ht':c.argTypes= #[u]:=Array.ext' ht
 have ha':c.args= #[x]:=Array.ext' ha
 have hm:x∈o.op.operands:=by simp [ho,Op.operands,Call.operands,hc,ha']
 simp only [evOp] at hr
 split at hr
 . simp_all
 . rename_i s e1 _
   refine ABx _ hr λ ρ hp w a _ _ hE=> ⟨_, .of (.int _ _), ?_⟩
   have q1:=vx hE hx hm
   rw [e1] at q1
   obtain ⟨cs,hb⟩:=AF7 P hc ho
   rw [hb]
   simp [builtin,ht',ha',q1.str,Builtin.len_,run_underlying hu,goInt]
 . cases hr
theorem AbT {c:Call} {u el:TypeId} {n:Nat} {x:Operand} {x':X} (hc:c.callee= .builtin .len) (ht:c.argTypes.toList= [u]) (ha:c.args.toList= [x]) (hu:P.underlying u=some (.array n el))
 (ho:o.op= .call c) (hr:evOp C made (.cst n x') e H K=some r):LocalOK P o e H K r cr:=by
 have ht':c.argTypes= #[u]:=Array.ext' ht
 have ha':c.args= #[x]:=Array.ext' ha
 refine ABx _ hr λ ρ hp w a _ _ hE=> ⟨_, .of (.int _ _), ?_⟩
 obtain ⟨cs,hb⟩:=AF7 P hc ho
 rw [hb]
 simp [builtin,ht',ha',Builtin.len_,run_underlying hu,goInt]
theorem Agm {c:Call} {x y:Operand} {x' y':X} (hc:c.callee= .builtin .max) (ha:c.args.toList= [x,y]) (ho:o.op= .call c) (hx:trX x=some x') (hy:trX y=some y') (hr:evOp C made (.mx x' y') e H K=some r):LocalOK P o e H K r cr:=by
 have ha':c.args= #[x,y]:=Array.ext' ha
 simp only [evOp] at hr
 split at hr
 . rename_i k p k' q e1 e2
   cases hk:ikeq k k' with
   |false=> rw [hk] at hr;cases hr
   |true=>
    rw [hk,cond_true] at hr
    have:=AL0 hk;subst this
    refine ABx _ hr λ ρ hp w a _ _ hE=> ⟨_, .of (.int _ _), ?_⟩
    have q1:=vx hE hx (by simp [ho,Op.operands,Call.operands,hc,ha'])
    have q2:=vx hE hy (by simp [ho,Op.operands,Call.operands,hc,ha'])
    rw [e1] at q1;rw [e2] at q2
    obtain ⟨cs,hb⟩:=AF7 P hc ho
    rw [hb]
    simp [builtin,ha',q1.int,q2.int,Builtin.max_,Builtin.max2]
 . cases hr
theorem Agn {c:Call} {x y:Operand} {x' y':X} (hc:c.callee= .builtin .min) (ha:c.args.toList= [x,y]) (ho:o.op= .call c) (hx:trX x=some x') (hy:trX y=some y') (hr:evOp C made (.mn x' y') e H K=some r):LocalOK P o e H K r cr:=by
 have ha':c.args= #[x,y]:=Array.ext' ha
 simp only [evOp] at hr
 split at hr
 . rename_i k p k' q e1 e2
   cases hk:ikeq k k' with
   |false=> rw [hk] at hr;cases hr
   |true=>
    rw [hk,cond_true] at hr
    have:=AL0 hk;subst this
    refine ABx _ hr λ ρ hp w a _ _ hE=> ⟨_, .of (.int _ _), ?_⟩
    have q1:=vx hE hx (by simp [ho,Op.operands,Call.operands,hc,ha'])
    have q2:=vx hE hy (by simp [ho,Op.operands,Call.operands,hc,ha'])
    rw [e1] at q1;rw [e2] at q2
    obtain ⟨cs,hb⟩:=AF7 P hc ho
    rw [hb]
    simp [builtin,ha',q1.int,q2.int,Builtin.min_,Builtin.min2]
 . cases hr
theorem Abe {el:TypeId} {z:List Value} (hz:zer P el=some z) (hf:z.all ptrFreeC=true) (ho:o.op= .alloc el) (hr:evOp C made (.alc z) e H K=some r):LocalOK P o e H K r true:=by
 simp only [evOp] at hr
 refine ARF _ z 0 (λ _ _ _ _ _ _=> AQt hf) hr λ ρ hp w a _ _ hE=> ?_
 have hz':∃i zv,P.info? el=some i/\i.zero=some zv/\zv.cells.toList=z:=by
  unfold zer at hz
  cases h1:P.info? el with
  |none=> rw [h1] at hz;cases hz
  |some i=>
   rw [h1] at hz
   cases h2:i.zero with
   |none=> simp [h2] at hz
   |some zv=> simp [h2] at hz;exact ⟨i,zv,rfl,h2,by simpa using hz⟩
 obtain ⟨i,zv,h1,h2,h3⟩:=hz'
 refine ⟨zv.cells,el, .pointer (some ⟨w.heap.size,0,none⟩), { w with heap:=w.heap.push (.cells zv.cells el) },0,λ j x hj=> ?_,by simp,λ ρ' h=> .of (.ptr ⟨_,h⟩), ?_,rfl,rfl,rfl,rfl⟩
 . refine ⟨x,by rw [←h3] at hj;simpa using hj,VRel.self (AL7 (List.all_eq_true.1 hf x (List.mem_of_getElem? hj))) (AQW (List.all_eq_true.1 hf x (List.mem_of_getElem? hj))) ρ⟩
 . simp [execOp,ho,Instr.alloc,zeroValue,typeInfo,h1,h2,newVar,newRow,newObj,Sem.run]
end pure
variable {P:Program} {R:Type}
theorem AOX {ρ:Ren} {v v':Value} (h:VRel ρ v v'):LRel ρ v.cells.toList v'.cells.toList:=by
 cases h with
 |agg l k=> exact ⟨l,k⟩
 |bool b=> exact .cons (.bool b) .nil
 |int k n=> exact .cons (.int k n) .nil
 |flt k b=> exact .cons (.flt k b) .nil
 |str s=> exact .cons (.str s) .nil
 |nilp=> exact .cons .nilp .nil
 |ptr e=> exact .cons (.ptr e) .nil
 |nils l c=> exact .cons (.nils l c) .nil
 |slc e a b c=> exact .cons (.slc e a b c) .nil
 |slz a a'=> exact .cons (.slz a a') .nil
 |sle hp hc a' c'=> exact .cons (.sle hp hc a' c') .nil
 |nilf=> exact .cons .nilf .nil
 |nili=> exact .cons .nili .nil
 |func f l1 h1 l2 h2=> exact .cons (.func f l1 h1 l2 h2) .nil
 |tup l k=> exact .cons (.tup l k) .nil
theorem ARJ (off:Nat):∀(l:List Value) (s:Nat) (cs:Array Value),off+s+l.length<=cs.size->
 ((l.zipIdx s).foldl (λ cs (x:Value×Nat)=> cs.setIfInBounds (off+x.2) x.1) cs).toList=splice cs.toList (off+s) l:=by
 intro l
 induction l with
 |nil=> intro s cs _;simp [splice]
 |cons v l ih=>
  intro s cs h
  simp only [List.length_cons] at h
  simp only [List.zipIdx_cons,List.foldl_cons]
  rw [ih (s+1) _ (by simp;omega)]
  simp only [splice,Array.toList_setIfInBounds,List.length_cons]
  have hlt:off+s < cs.toList.length:=by simp;omega
  apply List.ext_getElem?
  intro i
  have e1:(List.take (off+(s+1)) (cs.toList.set (off+s) v)).length=off+(s+1):=by simp;omega
  have e2:(List.take (off+s) cs.toList).length=off+s:=by simp;omega
  rw [List.append_assoc,List.append_assoc,List.getElem?_append,List.getElem?_append,List.getElem?_append,List.getElem?_append,e1,e2]
  by_cases c1:i < off+s
  . rw [if_pos (by omega),if_pos c1,List.getElem?_take,List.getElem?_take,if_pos (by omega),if_pos c1,List.getElem?_set_ne (by omega)]
  . by_cases c2:i=off+s
    . subst c2
      rw [if_pos (by omega),if_neg (by omega),if_pos (by simp),List.getElem?_take,if_pos (by omega),List.getElem?_set_self hlt]
      simp
    . rw [if_neg (by omega),if_neg c1]
      by_cases c3:i < off+s+1+l.length
      . rw [if_pos (by omega),if_pos (by simp;omega)]
        rw [show i - (off+s)=(i - (off+(s+1)))+1 from by omega,List.getElem?_cons_succ]
      . rw [if_neg (by omega),if_neg (by simp;omega),List.getElem?_drop,List.getElem?_drop,List.getElem?_set_ne (by omega)]
        congr 1
        simp
        omega
theorem AQT {ρ:Ren} {l l' vs vs':List Value} (h:LRel ρ l l') (k:LRel ρ vs vs') (o:Nat):LRel ρ (splice l o vs) (splice l' o vs'):=by
 unfold splice
 rw [←k.1]
 exact ((h.take o).append k).append (h.drop _)
theorem AQp {l:List Value} {o:Nat} {vs:List Value} (h:o+vs.length<=l.length):(splice l o vs).length=l.length:=by
 simp [splice];omega
def PRel (ρ:Ren) (place:Nat->Option (Nat×Nat)):List (Nat×Nat×Value)->List (Nat×Value)->Prop
 | [], []=> True
 |(o,n,v)::ps,(i,v')::qs=> place i=some (o,n)/\VRel ρ v v'/\PRel ρ place ps qs
 |_,_=> False
theorem AQw {ρ:Ren} {place:Nat->Option (Nat×Nat)}:∀ {ps:List (Nat×Nat×Value)} {qs:List (Nat×Value)} {z cs:List Value} {z':Array Value},PRel ρ place ps qs->LRel ρ z z'.toList->hfill z ps=some cs->
 ∃cs',Instr.fill place z' qs=some cs'/\LRel ρ cs cs'.toList:=by
 intro ps
 induction ps with
 |nil=>
  intro qs z cs z' h hz hf
  cases qs with
  |nil=> simp [hfill] at hf;subst hf;exact ⟨z',rfl,hz⟩
  |cons q qs=> exact h.elim
 |cons p ps ih=>
  intro qs z cs z' h hz hf
  obtain ⟨o,n,v⟩:=p
  cases qs with
  |nil=> exact h.elim
  |cons q qs=>
   obtain ⟨i,v'⟩:=q
   obtain ⟨h1,h2,h3⟩:=h
   simp only [hfill] at hf
   split at hf
   . rename_i hc
     have hv:=AOX h2
     have hs:v'.cells.size=n:=by have:=hv.1;simp at this;omega
     have hl:z.length=z'.size:=by simpa using hz.1
     have e1:(v'.cells.zipIdx.foldl (λ cs (x:Value×Nat)=> cs.setIfInBounds (o+x.2) x.1) z').toList=splice z'.toList o v'.cells.toList:=by
      have:=ARJ o v'.cells.toList 0 z' (by simp;omega)
      rw [←Array.foldl_toList]
      simpa using this
     obtain ⟨cs',h4,h5⟩:=ih h3 (z':=v'.cells.zipIdx.foldl (λ cs (x:Value×Nat)=> cs.setIfInBounds (o+x.2) x.1) z') (by rw [e1];exact AQT hz hv o) hf
     refine ⟨cs', ?_,h5⟩
     unfold Instr.fill
     simp only [h1]
     rw [if_neg (by simp [hs];omega)]
     exact h4
   . cases hf
section pure
variable {o:Oper} {e:Env} {H:Heap} {K:Value->Heap->Option R} {r:R} {cr:Bool} {C:Tab R} {made:List (Nat×Nat×Nat)}
theorem AbY {el:TypeId} {x:Operand} {x':X} (ho:o.op= .box el x) (hx:trX x=some x') (hr:evOp C made (.box x') e H K=some r):LocalOK P o e H K r true:=by
 simp only [evOp] at hr
 cases hk2:okv (gx e x') && (gx e x').cells.toList.all oneC with
 |false=> rw [hk2] at hr;cases hr
 |true=>
  rw [hk2,cond_true] at hr
  rw [Bool.and_eq_true] at hk2
  obtain ⟨hk,hone⟩:=hk2
  refine ARF _ _ 0 (λ _ _ _ _ _ _=> hone) hr λ ρ hp w a _ _ hE=> ?_
  have q1:=(vx hE hx (by simp [ho,Op.operands])).rel hk
  refine ⟨(a.eval x).cells,el, .pointer (some ⟨w.heap.size,0,none⟩), { w with heap:=w.heap.push (.cells (a.eval x).cells el) },0,λ j y hj=> ?_,by simp,λ ρ' h=> .of (.ptr ⟨_,h⟩), ?_,rfl,rfl,rfl,rfl⟩
  . obtain ⟨z,h1,h2⟩:=(AOX q1).get hj
    exact ⟨z,by simpa using h1,h2⟩
  . simp [execOp,ho,Instr.box,newVar,newRow,newObj,Sem.run]
theorem AYZ {ρ:Ren} {a:Act} (hE:Reads ρ e a o) {pl:List (Nat×Nat)}:∀ {parts:List (Nat×Operand)} {ys:List (Nat×Nat×X)},places pl parts=some ys->(∀p∈parts,p.2∈o.op.operands)->
 (gps e ys).all (λ p=> okv p.2.2)=true->PRel ρ (pl.toArray[·]?) (gps e ys) (parts.map λ (i,x)=> (i,a.eval x)):=by
 intro parts
 induction parts with
 |nil=> intro ys h _ _;simp [places] at h;subst h;trivial
 |cons p parts ih=>
  intro ys h hm hk
  obtain ⟨i,x⟩:=p
  simp only [places] at h
  split at h
  . rename_i o' n y zs h1 h2 h3
    cases h
    simp only [gps,List.all_cons,Bool.and_eq_true] at hk ⊢
    exact ⟨by simpa using h1,(vx hE h2 (hm (i,x) (by simp))).rel hk.1,ih h3 (λ z hz=> hm z (by simp [hz])) hk.2⟩
  . cases h
theorem ARz {ρ:Ren} {a:Act} (hE:Reads ρ e a o) {n:Nat}:∀ {parts:List (Nat×Operand)} {ys:List (Nat×Nat×X)},placesA n parts=some ys->(∀p∈parts,p.2∈o.op.operands)->
 (gps e ys).all (λ p=> okv p.2.2)=true->PRel ρ (λ i=> some (i * n,n)) (gps e ys) (parts.map λ (i,x)=> (i,a.eval x)):=by
 intro parts
 induction parts with
 |nil=> intro ys h _ _;simp [placesA] at h;subst h;trivial
 |cons p parts ih=>
  intro ys h hm hk
  obtain ⟨i,x⟩:=p
  simp only [placesA] at h
  split at h
  . rename_i y zs h2 h3
    cases h
    simp only [gps,List.all_cons,Bool.and_eq_true] at hk ⊢
    exact ⟨rfl,(vx hE h2 (hm (i,x) (by simp))).rel hk.1,ih h3 (λ z hz=> hm z (by simp [hz])) hk.2⟩
  . cases h
theorem ANA {t:TypeId} {z:List Value} (hz:zer P t=some z):∃i zv,P.info? t=some i/\i.zero=some zv/\zv.cells.toList=z:=by
 unfold zer at hz
 cases h1:P.info? t with
 |none=> rw [h1] at hz;cases hz
 |some i=>
  rw [h1] at hz
  cases h2:i.zero with
  |none=> simp [h2] at hz
  |some zv=> simp [h2] at hz;exact ⟨i,zv,rfl,h2,by simpa using hz⟩
theorem AQq {ρ:Ren} {z:List Value} (hf:z.all ptrFreeC=true):LRel ρ z z:=
 ⟨rfl,λ i x y a b=> by rw [a] at b;cases b;have:=List.all_eq_true.1 hf x (List.mem_of_getElem? a);exact VRel.self (AL7 this) (AQW this) ρ⟩
theorem Aba {u:TypeId} {parts:Array (Nat×Operand)} {fs:Array Field} {z:List Value} {pl:List (Nat×Nat)} {ps:List (Nat×Nat×X)} (hu:P.underlying u=some (.struct fs)) (hz:zer P u=some z) (hf:z.all ptrFreeC=true)
 (hpl:fs.toList.mapM (λ f=> (P.info? f.type).map λ i=> (f.offset,i.size))=some pl) (hps:places pl parts.toList=some ps)
 (ho:o.op= .build u parts) (hr:evOp C made (.bld z ps) e H K=some r):LocalOK P o e H K r cr:=by
 simp only [evOp] at hr
 cases hk:(gps e ps).all (λ p=> okv p.2.2) with
 |false=> rw [hk] at hr;cases hr
 |true=>
  rw [hk,cond_true] at hr
  split at hr
  . rename_i cs hcs
    obtain ⟨it,zv,h1,h2,h3⟩:=ANA hz
    refine ABx _ hr λ ρ hp w a _ _ hE=> ?_
    have hp1:=AYZ hE hps (λ p hp=> by simp [ho,Op.operands];exact ⟨p.1,by simpa using hp⟩) hk
    obtain ⟨cs',h4,h5⟩:=AQw hp1 (z:=z) (z':=zv.cells) (by rw [h3];exact AQq hf) hcs
    refine ⟨.agg cs', .of (.agg h5.1 h5.2), ?_⟩
    have h6:P.built u (parts.map λ (i,x)=> (i,a.eval x)).toList=some cs':=by
     unfold Program.built
     rw [h1,hu]
     simp only [h2,hpl]
     rw [←h4]
     simp
    simp only [execOp,ho,Sem.run_bind,run_build w u _ cs' h6,Result.andThen_ok,Sem.run_pure]
  . cases hr
theorem AYn {u el:TypeId} {parts:Array (Nat×Operand)} {n m:Nat} {z:List Value} {ps:List (Nat×Nat×X)} (hu:P.underlying u=some (.array m el)) (hz:zer P u=some z) (hf:z.all ptrFreeC=true)
 (hs:sz P el=some n) (hps:placesA n parts.toList=some ps)
 (ho:o.op= .build u parts) (hr:evOp C made (.bld z ps) e H K=some r):LocalOK P o e H K r cr:=by
 simp only [evOp] at hr
 cases hk:(gps e ps).all (λ p=> okv p.2.2) with
 |false=> rw [hk] at hr;cases hr
 |true=>
  rw [hk,cond_true] at hr
  split at hr
  . rename_i cs hcs
    obtain ⟨it,zv,h1,h2,h3⟩:=ANA hz
    refine ABx _ hr λ ρ hp w a _ _ hE=> ?_
    have hp1:=ARz hE hps (λ p hp=> by simp [ho,Op.operands];exact ⟨p.1,by simpa using hp⟩) hk
    obtain ⟨cs',h4,h5⟩:=AQw hp1 (z:=z) (z':=zv.cells) (by rw [h3];exact AQq hf) hcs
    refine ⟨.agg cs', .of (.agg h5.1 h5.2), ?_⟩
    have hi:∃ie,P.info? el=some ie/\ie.size=n:=by
     unfold sz at hs
     cases q:P.info? el with
     |none=> rw [q] at hs;cases hs
     |some ie=> rw [q] at hs;simp at hs;exact ⟨ie,rfl,hs⟩
    obtain ⟨ie,g1,g2⟩:=hi
    have h6:P.built u (parts.map λ (i,x)=> (i,a.eval x)).toList=some cs':=by
     unfold Program.built
     rw [h1,hu]
     simp only [h2,g1,g2]
     rw [←h4]
     simp
    simp only [execOp,ho,Sem.run_bind,run_build w u _ cs' h6,Result.andThen_ok,Sem.run_pure]
  . cases hr
theorem AYS {z:List Value} (h0:z≠ []):∀(n i:Nat),i < n * z.length->(rep z n)[i]? =z[i % z.length]? :=by
 have hpos:0 < z.length:=List.length_pos_iff.2 h0
 intro n
 induction n with
 |zero=> intro i hi;simp at hi
 |succ n ih=>
  intro i hi
  simp only [rep]
  rw [List.getElem?_append]
  rw [Nat.add_mul,Nat.one_mul] at hi
  split
  . rename_i h;rw [Nat.mod_eq_of_lt h]
  . rename_i h
    rw [ih _ (by omega)]
    congr 1
    rw [←Nat.mod_eq_sub_mod (by omega)]
theorem AOF {z:List Value} (hf:z.all ptrFreeC=true) (len:Nat):(rep z len).all ptrFreeC=true:=by
 induction len with
 |zero=> rfl
 |succ k ih=> rw [rep,List.all_append,hf,ih];rfl
theorem ASR (z:List Value) (n:Nat):(rep z n).length=n * z.length:=by
 induction n with
 |zero=> simp [rep]
 |succ n ih=> simp [rep,ih,Nat.add_mul];omega
theorem AVH (z:List Value) (n:Nat):mkCells z n=rep z n:=by
 induction n with
 |zero=> rfl
 |succ n ih=> simp [mkCells,rep,ih]
theorem ANs {zv:Array Value} {n m:Nat} (h0:zv.toList≠ []) (hm:m=n * zv.size):((Array.range m).map (zv[. % zv.size]!)).toList=rep zv.toList n:=by
 have hpos:0 < zv.size:=by have:=List.length_pos_iff.2 h0;simpa using this
 apply List.ext_getElem?
 intro i
 by_cases hi:i < m
 . rw [AYS h0 n i (by simp;omega)]
   have h2:i % zv.size < zv.size:=Nat.mod_lt _ hpos
   simp [hi,h2]
 . have h1:(rep zv.toList n).length<=i:=by rw [ASR];simp;omega
   rw [List.getElem?_eq_none h1]
   simp [hi]
theorem AbZ {u el:TypeId} {parts:Array (Nat×Operand)} {len n:Nat} {z:List Value} {ps:List (Nat×Nat×X)} (hu:P.underlying u=some (.slice el)) (hz:zer P el=some z) (hf:z.all ptrFreeC=true)
 (hs:sz P el=some n) (hn:n=z.length) (hn0:n≠0) (hl:len * n<=16777216) (hps:placesA n parts.toList=some ps)
 (ho:o.op= .buildSlice u len parts) (hr:evOp C made (.bls len (rep z len) ps) e H K=some r):LocalOK P o e H K r true:=by
 simp only [evOp] at hr
 cases hk:(gps e ps).all (λ p=> okv p.2.2) with
 |false=> rw [hk] at hr;cases hr
 |true=>
  rw [hk,cond_true] at hr
  split at hr
  . rename_i cs hcs
    cases hone:cs.all oneC with
    |false=> rw [hone] at hr;cases hr
    |true=>
    rw [hone,cond_true] at hr
    obtain ⟨it,zv,h1,h2,h3⟩:=ANA hz
    have hz0:zv.cells.toList≠ []:=by rw [h3];intro h;rw [h] at hn;exact hn0 hn
    have hzs:zv.cells.size=n:=by rw [hn,←h3];simp
    refine ARF _ cs 0 (λ _ _ _ _ _ _=> hone) hr λ ρ hp w a _ _ hE=> ?_
    have hp1:=ARz hE hps (λ p hp=> by simp [ho,Op.operands];exact ⟨p.1,by simpa using hp⟩) hk
    have hzero:((Array.range (len * n)).map ((if len * n=0 then (#[]:Array Value) else zv.cells)[. % (if len * n=0 then (#[]:Array Value) else zv.cells).size]!)).toList=rep z len:=by
     by_cases c:len * n=0
     . have:len=0:=by rcases Nat.mul_eq_zero.1 c with h|h;exact h;exact (hn0 h).elim
       subst this
       simp [rep]
     . rw [if_neg c,ANs (n:=len) hz0 (by rw [hzs]),h3]
    have hrep:=AOF hf len
    have lenne:len≠unk:=by
     intro h;rw [h] at hl;unfold unk at hl
     have:1<=n:=by omega
     have:=Nat.mul_le_mul_left 1180591620717411303424 this
     omega
    obtain ⟨cs',h4,h5⟩:=AQw hp1 (z:=rep z len) (z':=(Array.range (len * n)).map ((if len * n=0 then (#[]:Array Value) else zv.cells)[. % (if len * n=0 then (#[]:Array Value) else zv.cells).size]!)) (by rw [hzero];exact AQq hrep) hcs
    refine ⟨cs',el, .slice (some ⟨w.heap.size,0,none⟩) len len, { w with heap:=w.heap.push (.cells cs' el) },0,λ j y hj=> ?_,by simp,λ ρ' h=> .of (.slc ⟨_,h⟩ (.inl rfl) (Nat.le_refl _) (λ h=> (lenne h).elim)), ?_,rfl,rfl,rfl,rfl⟩
    . obtain ⟨y',g1,g2⟩:=h5.get hj
      exact ⟨y',by simpa using g1,g2⟩
    . have e5:(parts.map λ (i,x)=> (i,a.eval x)).toList=parts.toList.map λ (i,x)=> (i,a.eval x):=by simp
      by_cases c:len * n=0
      . simp only [c,if_true] at h4
        simp [execOp,ho,Instr.buildSlice,run_underlying hu,AFW hs,c,newRow,newObj,Sem.run]
        (try simp at h4)
        simp [h4,Sem.run]
      . simp only [c,if_false] at h4
        have hbig:¬ (2 ^ 24 < len * n):=by omega
        simp [execOp,ho,Instr.buildSlice,run_underlying hu,AFW hs,hbig,c,zeroValue,typeInfo,h1,h2,newRow,newObj,Sem.run]
        (try simp at h4)
        simp [h4,Sem.run]
  . cases hr
end pure
variable {P:Program} {R:Type}
theorem AHy (k:IntKind) (i:Int) (y:Nat) (code:BoundsCode) (h0:0<=i) (h:i<=y) (w:World):(Instr.sliceBound (.int k i) y code).run P w= .ok i.toNat w:=by
 simp [Instr.sliceBound,asIntOf,h0,h]
theorem AQd (isS:Bool) (l c:Nat) (lo hi mx:Option Int) (k1 k2 k3:IntKind) (hh:mx.isSome=true->hi.isSome=true) (h1:0<=lo.getD 0) (h2:lo.getD 0<=hi.getD l) (h3:hi.getD l<=mx.getD c) (h4:mx.getD c<=c) (w:World):
 (Instr.sliceBounds isS l c (lo.map (.int k1)) (hi.map (.int k2)) (mx.map (.int k3))).run P w= .ok ((lo.getD 0).toNat,(hi.getD l).toNat,(mx.getD c).toNat) w:=by
 have t:∀(m:Int),0<=m->(m.toNat:Int)=m:=λ m h=> Int.toNat_of_nonneg h
 cases lo with
 |none=>
  cases hi with
  |none=>
   cases mx with
   |none=> simp [Instr.sliceBounds]
   |some m=> simp at hh
  |some h=>
   simp at h2 h3
   cases mx with
   |none=> simp at h3;simp [Instr.sliceBounds,AHy,h2,h3]
   |some m=> simp at h3 h4;simp [Instr.sliceBounds,AHy,h2,h3,h4,t,show 0<=m from by omega]
 |some q=>
  simp at h1
  cases hi with
  |none=>
   cases mx with
   |none=> simp at h2;simp [Instr.sliceBounds,AHy,h1,h2]
   |some m=> simp at hh
  |some h=>
   simp at h2 h3
   have h0:0<=h:=by omega
   cases mx with
   |none=> simp at h3;simp [Instr.sliceBounds,AHy,h1,h2,h3,h0,t]
   |some m=> simp at h3 h4;simp [Instr.sliceBounds,AHy,h1,h2,h3,h4,h0,t,show 0<=m from by omega]
theorem ATd {size:Nat} {p:Option Addr} {l c:Nat} {lo hi mx:Option Int} {K:Option Addr->Nat->Nat->Option R} {r:R} (h:hslc size p l c lo hi mx K=some r):
 ∃p2 l2 c2,K p2 l2 c2=some r/\∀(ρ:Ren) (v':Value),V0 ρ (.slice p l c) v'->∃p' c',v'= .slice p' l c'/\0<=lo.getD 0/\lo.getD 0<=hi.getD l/\hi.getD l<=mx.getD c'/\mx.getD c'<=c'/\
  VRel ρ (.slice p2 l2 c2) (.slice (if (mx.getD c').toNat=(lo.getD 0).toNat then p' else p'.map (·.add ((lo.getD 0).toNat * size))) ((hi.getD l).toNat - (lo.getD 0).toNat) ((mx.getD c').toNat - (lo.getD 0).toNat)):=by
 unfold hslc at h
 simp only [] at h
 generalize lo.getD 0=lw at h ⊢
 generalize hi.getD (l:Int)=hw at h ⊢
 rcases Classical.em (0<=lw/\lw<=hw/\hw<=mx.getD (c:Int)/\(if c=unk then plainP p=true/\((mx.isSome=true/\mx.getD (c:Int)<=l/\l < unk)∨(mx.isSome=false/\hw<=l)) else mx.getD (c:Int)<=c/\c < unk)) with hc|hc
 . rw [if_pos hc] at h
   obtain ⟨g1,g2,g3,g4⟩:=hc
   by_cases hcu:c=unk
   . rw [if_pos hcu] at g4
     obtain ⟨g5,g6⟩:=g4
     cases p with
     |none=> simp [plainP] at g5
     |some p=>
      obtain ⟨b,o,s⟩:=p
      have hs0:s=none:=by cases s with
       |none=> rfl
       |some x=> simp [plainP] at g5
      subst hs0
      cases mx with
      |none=>
       simp at g6
       rw [if_pos ⟨hcu,rfl⟩] at h
       split at h
       . rename_i hlw
         refine ⟨_,_,_,h,λ ρ v' hv=> ?_⟩
         obtain ⟨_,b',d,c',k1,k2,k3,k4,k5⟩:=hv.slc (λ h0=> h0.2.elim (λ h1=> by rw [hcu] at h1;simp [unk] at h1) (λ h1=> by cases h1.2.2))
         refine ⟨_,_,k2,g1,g2,by simp;omega,by simp, ?_⟩
         subst hlw
         have e4:(if ((none:Option Int).getD (c':Int)).toNat=(0:Int).toNat then some (⟨b',d+o,none⟩:Addr) else (some (⟨b',d+o,none⟩:Addr)).map (·.add ((0:Int).toNat * size)))=some ⟨b',d+o,none⟩:=by
          split
          . rfl
          . simp [Addr.add]
         rw [e4]
         exact .slc k1 (.inr rfl) (by simp;omega) (λ _ h=> by simpa using k5 hcu h)
       . split at h
         . rename_i hn0 hlt
           refine ⟨_,_,_,h,λ ρ v' hv=> ?_⟩
           obtain ⟨_,b',d,c',k1,k2,k3,k4,k5⟩:=hv.slc (λ h0=> h0.2.elim (λ h1=> by rw [hcu] at h1;simp [unk] at h1) (λ h1=> by cases h1.2.2))
           refine ⟨_,_,k2,g1,g2,by simp;omega,by simp, ?_⟩
           have e4:((none:Option Int).getD (c':Int)).toNat≠lw.toNat:=by simp;omega
           rw [if_neg e4]
           simp only [Option.map_some,ANR,Nat.add_assoc]
           refine .slc k1 (.inr rfl) (by simp;omega) (λ _ h0=> ?_)
           have:0 < lw.toNat * size:=Nat.mul_pos (by omega) hlt.2
           omega
         . split at h
           . rename_i hn0 hn1 hle
             refine ⟨_,_,_,h,λ ρ v' hv=> ?_⟩
             obtain ⟨_,b',d,c',k1,k2,k3,k4,k5⟩:=hv.slc (λ h0=> h0.2.elim (λ h1=> by rw [hcu] at h1;simp [unk] at h1) (λ h1=> by cases h1.2.2))
             refine ⟨_,_,k2,g1,g2,by simp;omega,by simp, ?_⟩
             have e5:hw.toNat - lw.toNat=0:=by omega
             rw [e5]
             split
             . exact .sle rfl rfl _ _
             . exact .sle rfl rfl _ _
           . cases h
      |some m=>
       simp at g6 g3
       rw [if_neg (by simp)] at h
       simp at h
       split at h
       . rename_i hm
         refine ⟨_,_,_,h,λ ρ v' hv=> ?_⟩
         obtain ⟨_,b',d,c',k1,k2,k3,k4,k5⟩:=hv.slc (λ h0=> h0.2.elim (λ h1=> by rw [hcu] at h1;simp [unk] at h1) (λ h1=> by cases h1.2.2))
         refine ⟨_,_,k2,g1,g2,by simpa using g3,by simp;omega, ?_⟩
         rw [if_pos (by simp [hm])]
         exact .slc k1 (.inl (by simp)) (by simp;omega) (λ h0=> by unfold unk at *;omega)
       . rename_i hm
         refine ⟨_,_,_,h,λ ρ v' hv=> ?_⟩
         obtain ⟨_,b',d,c',k1,k2,k3,k4,k5⟩:=hv.slc (λ h0=> h0.2.elim (λ h1=> by rw [hcu] at h1;simp [unk] at h1) (λ h1=> by cases h1.2.2))
         refine ⟨_,_,k2,g1,g2,by simpa using g3,by simp;omega, ?_⟩
         have e5:¬ ((some m).getD (c':Int)).toNat=lw.toNat:=by simp;omega
         rw [if_neg e5]
         by_cases z:lw=0
         . subst z
           have e6:(⟨b',d+o,none⟩:Addr).add ((0:Int).toNat * size)=⟨b',d+o,none⟩:=by simp [Addr.add]
           simp only [if_true,Option.map_some,e6]
           exact .slc k1 (.inl rfl) (by simp;omega) (λ h0=> by unfold unk at *;omega)
         . simp only [if_neg z,Option.map_some,ANR,Nat.add_assoc]
           exact .slc k1 (.inl (by simp)) (by simp;omega) (λ h0=> by unfold unk at *;omega)
   . rw [if_neg hcu] at g4
     rw [if_neg (by simp [hcu])] at h
     by_cases hz:l=0/\c=0
     . obtain ⟨rfl,rfl⟩:=hz
       have hlw:lw=0:=by omega
       have hhw:hw=0:=by omega
       have hmx:mx.getD ((0:Nat):Int)=0:=by omega
       rw [hmx,hlw,hhw] at h
       rw [if_pos rfl] at h
       refine ⟨_,_,_,h,λ ρ v' hv=> ?_⟩
       cases p with
       |none=> exact ⟨none,0,hv.nils,by omega,by omega,by omega,by omega,by rw [hmx,hlw,hhw,if_pos rfl];exact .nils _ _⟩
       |some p=>
        obtain ⟨a',c',k1,k2,_⟩:=hv.slx
        rcases k2 with rfl|k2
        . exact ⟨some a',0,k1,by omega,by omega,by omega,by omega,by rw [hmx,hlw,hhw,if_pos rfl];exact .slz _ _⟩
        . exact (hcu k2).elim
     have key:∀(ρ:Ren) (v':Value),V0 ρ (.slice p l c) v'->∃p',v'= .slice p' l c/\(∀b o s,p=some ⟨b,o,s⟩->s=none/\∃b' d,At ρ b b' d/\p'=some ⟨b',d+o,none⟩)/\(p=none->p'=none):=by
      intro ρ v' hv
      cases p with
      |none=> exact ⟨none,hv.nils,λ _ _ _ h=> by (cases h),λ _=> rfl⟩
      |some p=>
       obtain ⟨b,o,s⟩:=p
       obtain ⟨rfl,b',d,c',k1,k2,k3,k4,k5⟩:=hv.slc (λ h0=> h0.2.elim (λ h1=> hz ⟨h0.1,h1⟩) (λ h1=> hcu h1.1))
       rcases k3 with k3|k3
       . subst k3;exact ⟨_,k2,λ _ _ _ h=> by cases h;exact ⟨rfl,_,_,k1,rfl⟩,λ h=> by cases h⟩
       . exact (hcu k3).elim
     split at h
     . rename_i hm
       refine ⟨_,_,_,h,λ ρ v' hv=> ?_⟩
       obtain ⟨p',k1,k2,k3⟩:=key ρ v' hv
       refine ⟨p',c,k1,g1,g2,g3,g4.1, ?_⟩
       rw [if_pos (by rw [hm])]
       cases p with
       |none=> rw [k3 rfl];exact .nils _ _
       |some p=>
        obtain ⟨b,o,s⟩:=p
        obtain ⟨rfl,b',d,k4,rfl⟩:=k2 b o s rfl
        exact .slc k4 (.inl rfl) (by omega) (λ h0=> by have:=g4.2;unfold unk at *;omega)
     . rename_i hm
       refine ⟨_,_,_,h,λ ρ v' hv=> ?_⟩
       obtain ⟨p',k1,k2,k3⟩:=key ρ v' hv
       refine ⟨p',c,k1,g1,g2,g3,g4.1, ?_⟩
       rw [if_neg (by omega)]
       cases p with
       |none=> rw [k3 rfl];exact .nils _ _
       |some p=>
        obtain ⟨b,o,s⟩:=p
        obtain ⟨rfl,b',d,k4,rfl⟩:=k2 b o s rfl
        by_cases z:lw=0
        . subst z
          simp [Addr.add]
          exact .slc k4 (.inl rfl) (by omega) (λ h0=> by have:=g4.2;unfold unk at *;omega)
        . dsimp only
          rw [if_neg z]
          simp only [Option.map_some,ANR,Nat.add_assoc]
          exact .slc k4 (.inl rfl) (by omega) (λ h0=> by have:=g4.2;unfold unk at *;omega)
 . rw [if_neg hc] at h;cases h
section pure
variable {o:Oper} {e:Env} {H:Heap} {K:Value->Heap->Option R} {r:R} {cr:Bool} {C:Tab R} {made:List (Nat×Nat×Nat)}
theorem AKt {ρ:Ren} {a:Act} (hE:Reads ρ e a o) {x:Option Operand} {x':Option X} {n:Option Int} (hx:trXo x=some x') (hm:∀y,x=some y->y∈o.op.operands) (hn:optInt e x'=some n):∃k,x.map a.eval=n.map (.int k):=by
 cases x with
 |none=> simp [trXo] at hx;subst hx;simp [optInt] at hn;subst hn;exact ⟨.i64,rfl⟩
 |some x=>
  simp only [trXo] at hx
  split at hx
  . rename_i y hy
    cases hx
    simp only [optInt] at hn
    split at hn
    . rename_i k m hv
      cases hn
      have:=vx hE hy (hm x rfl)
      rw [hv] at this
      exact ⟨k,by simp [this.int]⟩
    . cases hn
  . cases hx
theorem AbD {u el:TypeId} {x:Operand} {lo hi mx:Option Operand} {x':X} {lo' hi' mx':Option X} {n:Nat} (hu:P.underlying u=some (.slice el)) (hs:sz P el=some n) (hh:mx'.isSome=true->hi'.isSome=true)
 (ho:o.op= .slice u x lo hi mx) (hx:trX x=some x') (h1:trXo lo=some lo') (h2:trXo hi=some hi') (h3:trXo mx=some mx') (hr:evOp C made (.slc n x' lo' hi' mx') e H K=some r):LocalOK P o e H K r cr:=by
 simp only [evOp] at hr
 split at hr
 . rename_i p l c e1
   split at hr
   . rename_i ln hn mn q1 q2 q3
     obtain ⟨p2,l2,c2,k1,k2⟩:=ATd hr
     refine ABx _ k1 λ ρ hp w a _ _ hE=> ?_
     have q:=vx hE hx (by simp [ho,Op.operands])
     rw [e1] at q
     obtain ⟨p',c',f1,f2,f3,f4,f5,f6⟩:=k2 ρ _ q
     obtain ⟨ka,ea⟩:=AKt hE h1 (λ y hy=> by subst hy;simp [ho,Op.operands]) q1
     obtain ⟨kb,eb⟩:=AKt hE h2 (λ y hy=> by subst hy;simp [ho,Op.operands]) q2
     obtain ⟨kc,ec⟩:=AKt hE h3 (λ y hy=> by subst hy;simp [ho,Op.operands]) q3
     have hh':mn.isSome=true->hn.isSome=true:=by
      intro hm
      have:mx'.isSome=true:=by
       cases mx' with
       |none=> simp [optInt] at q3;subst q3;cases hm
       |some _=> rfl
      have:=hh this
      cases hi' with
      |none=> cases this
      |some y=> simp only [optInt] at q2;split at q2 <;> cases q2;rfl
     refine ⟨_, .of f6, ?_⟩
     simp only [execOp,ho,f1,ea,eb,ec,Instr.sliceAt,Sem.run_bind,run_underlying hu,Result.andThen_ok,Instr.slice,AQd true l c' ln hn mn ka kb kc hh' f2 f3 f4 f5,AFW hs,Sem.run_pure]
   . cases hr
 . cases hr
theorem ASX {u el:TypeId} {x:Operand} {lo hi mx:Option Operand} {x':X} {lo' hi' mx':Option X} {n m:Nat} {p:Addr} {ln hn mn:Option Int} (hu:P.underlying u=some (.array m el)) (hs:sz P el=some n) (hh:mx'.isSome=true->hi'.isSome=true)
 (ho:o.op= .slice u x lo hi mx) (hx:trX x=some x') (h1:trXo lo=some lo') (h2:trXo hi=some hi') (h3:trXo mx=some mx') (e1:gx e x'= .pointer (some p)) (q1:optInt e lo'=some ln) (q2:optInt e hi'=some hn) (q3:optInt e mx'=some mn) (hmu:Nat.beq m unk=false)
 (hr:hslc n (some p) m m ln hn mn (λ p l c=> K (.slice p l c) H)=some r):LocalOK P o e H K r cr:=by
 obtain ⟨p2,l2,c2,k1,k2⟩:=ATd hr
 refine ABx _ k1 λ ρ hp w a _ _ hE=> ?_
 have q:=vx hE hx (by simp [ho,Op.operands])
 rw [e1] at q
 obtain ⟨b,o',s⟩:=p
 obtain ⟨rfl,b',d,g1,g2⟩:=q.ptr
 obtain ⟨p',c',f1,f2,f3,f4,f5,f6⟩:=k2 ρ (.slice (some ⟨b',d+o',none⟩) m m) (.of (.slc g1 (.inl rfl) (Nat.le_refl _) (λ h=> by rw [h] at hmu;simp at hmu)))
 cases f1
 obtain ⟨ka,ea⟩:=AKt hE h1 (λ y hy=> by subst hy;simp [ho,Op.operands]) q1
 obtain ⟨kb,eb⟩:=AKt hE h2 (λ y hy=> by subst hy;simp [ho,Op.operands]) q2
 obtain ⟨kc,ec⟩:=AKt hE h3 (λ y hy=> by subst hy;simp [ho,Op.operands]) q3
 have hh':mn.isSome=true->hn.isSome=true:=by
  intro hm
  have:mx'.isSome=true:=by
   cases mx' with
   |none=> simp [optInt] at q3;subst q3;cases hm
   |some _=> rfl
  have:=hh this
  cases hi' with
  |none=> cases this
  |some y=> simp only [optInt] at q2;split at q2 <;> cases q2;rfl
 refine ⟨_, .of f6, ?_⟩
 simp only [execOp,ho,g2,ea,eb,ec,Instr.sliceAt,Sem.run_bind,run_underlying hu,Result.andThen_ok,Instr.sureAddr,AQd false m m ln hn mn ka kb kc hh' f2 f3 f4 f5,AFW hs,Sem.run_pure]
 congr 2
 split <;> rfl
theorem AbE {u el:TypeId} {x:Operand} {lo hi mx:Option Operand} {x':X} {lo' hi' mx':Option X} {n m:Nat} (hu:P.underlying u=some (.array m el)) (hs:sz P el=some n) (hh:mx'.isSome=true->hi'.isSome=true)
 (ho:o.op= .slice u x lo hi mx) (hx:trX x=some x') (h1:trXo lo=some lo') (h2:trXo hi=some hi') (h3:trXo mx=some mx') (hr:evOp C made (.sla m n x' lo' hi' mx') e H K=some r):LocalOK P o e H K r cr:=by
 simp only [evOp] at hr
 split at hr
 . rename_i p e1
   split at hr
   . rename_i ln hn mn q1 q2 q3
     unfold hsla at hr
     split at hr
     . rename_i p
       cases hmu:Nat.beq m unk with
       |true=> rw [hmu] at hr;cases hr
       |false=>
       rw [hmu,cond_false] at hr
       exact ASX hu hs hh ho hx h1 h2 h3 e1 q1 q2 q3 hmu hr
     . cases hr
   . cases hr
 . cases hr
theorem AbG {u el:TypeId} {l c:Operand} {l' c':X} {n b:Nat} {z:List Value} (hu:P.underlying u=some (.slice el)) (hz:zer P el=some z) (hs:sz P el=some n) (hb:byts P el=some b) (hn:n=z.length) (hn0:n≠0) (hf:z.all ptrFreeC=true)
 (ho:o.op= .makeSlice u l c) (hl:trX l=some l') (hc:trX c=some c') (hr:evOp C made (.mks z b l' c') e H K=some r):LocalOK P o e H K r true:=by
 simp only [evOp] at hr
 split at hr
 . rename_i k1 ln k2 cn e1 e2
   simp only [hmk] at hr
   split at hr
   . rename_i hcond
     obtain ⟨g1,g2,g3,g4⟩:=hcond
     obtain ⟨it,zv,h1,h2,h3⟩:=ANA hz
     have hz0:zv.cells.toList≠ []:=by rw [h3];intro h;rw [h] at hn;exact hn0 hn
     have hzs:zv.cells.size=n:=by rw [hn,←h3];simp
     have hit:it.size=n/\it.bytes=b:=by
      unfold sz at hs;unfold byts at hb;rw [h1] at hs hb;simp at hs hb;exact ⟨hs,hb⟩
     refine ARF _ _ 0 (λ _ _ _ _ _ _=> by rw [AVH];exact AQt (AOF hf _)) hr λ ρ hp w a _ _ hE=> ?_
     have q1:=vx hE hl (by simp [ho,Op.operands])
     have q2:=vx hE hc (by simp [ho,Op.operands])
     rw [e1] at q1;rw [e2] at q2
     have w1:IntKind.i64.wrap ln=ln:=IntWalk.i64_in _ (by omega)
     have w2:IntKind.i64.wrap cn=cn:=IntWalk.i64_in _ (by omega)
     let zz:Array Value:=if cn.toNat * n=0 then (#[]:Array Value) else zv.cells
     have hzero:((Array.range (cn.toNat * n)).map (zz[. % zz.size]!)).toList=rep z cn.toNat:=by
      by_cases cc:cn.toNat * n=0
      . have:cn.toNat=0:=by rcases Nat.mul_eq_zero.1 cc with h|h;exact h;exact (hn0 h).elim
        rw [this]
        simp [rep]
      . simp only [zz,if_neg cc]
        rw [ANs (n:=cn.toNat) hz0 (by rw [hzs]),h3]
     refine ⟨(Array.range (cn.toNat * n)).map (zz[. % zz.size]!),el, .slice (some ⟨w.heap.size,0,none⟩) ln.toNat cn.toNat, { w with heap:=w.heap.push (.cells ((Array.range (cn.toNat * n)).map (zz[. % zz.size]!)) el) },0,λ j y hj=> ?_,by simp,λ ρ' h=> .of (.slc ⟨_,h⟩ (.inl rfl) (by omega) (λ h=> by unfold unk at h;omega)), ?_,rfl,rfl,rfl,rfl⟩
     . rw [AVH,←hzero] at hj
       refine ⟨y,by rw [←Array.getElem?_toList];exact hj, ?_⟩
       have hm:y∈rep z cn.toNat:=by rw [←hzero];exact List.mem_of_getElem? hj
       have:=List.all_eq_true.1 (AOF hf cn.toNat) y hm
       exact VRel.self (AL7 this) (AQW this) ρ
     . have t1:¬ cn < 0:=by omega
       have t2:¬ (281474976710656 < (b:Int) * cn):=by rw [Int.mul_comm];omega
       have t3:¬ ln < 0:=by omega
       have t4:¬ cn < ln:=by omega
       by_cases cc:cn.toNat * n=0
       . simp [execOp,ho,q1.int,q2.int,Instr.makeSlice,run_underlying hu,asInt,asIntOf,typeInfo,h1,hit.2,w1,w2,t1,t2,t3,t4,sizeOf,hit.1,cc,newRow,newObj,Sem.run,zz]
       . simp [execOp,ho,q1.int,q2.int,Instr.makeSlice,run_underlying hu,asInt,asIntOf,typeInfo,h1,hit.2,w1,w2,t1,t2,t3,t4,sizeOf,hit.1,cc,newRow,newObj,Sem.run,zz,zeroValue,h2]
   . cases hr
 . cases hr
def eqB (cs ds:List Value):List (Nat×Nat)->Option Bool
 | []=> some true
 |(o,k)::os=>
  match k,cs[o]?,ds[o]? with
  |0,some (.int k a),some (.int k' b)=> bif ikeq k k' then (eqB cs ds os).map ((a==b) && ·) else none
  |1,some (.bool a),some (.bool b)=> (eqB cs ds os).map ((a==b) && ·)
  |2,some (.string a),some (.string b)=> (eqB cs ds os).map ((a==b) && ·)
  |_,_,_=> none
theorem ASb {cs ds:List Value} {K':Bool->Option R}:∀ {os:List (Nat×Nat)} {acc:Bool},eqCells cs ds os acc K'=some r->∃b,eqB cs ds os=some b/\K' (acc && b)=some r:=by
 intro os
 induction os with
 |nil=> intro acc h;exact ⟨true,rfl,by simpa [eqCells] using h⟩
 |cons o os ih=>
  obtain ⟨o,kd⟩:=o
  intro acc h
  simp only [eqCells] at h
  split at h
  . rename_i k a k' b h1 h2
    cases hk:ikeq k k' with
    |false=> rw [hk] at h;cases h
    |true=>
     rw [hk,cond_true] at h
     obtain ⟨q,h3,h4⟩:=ih h
     exact ⟨(a==b) && q,by simp [eqB,h1,h2,h3,hk],by rw [←Bool.and_assoc];exact h4⟩
  . rename_i a b h1 h2
    obtain ⟨q,h3,h4⟩:=ih h
    exact ⟨(a==b) && q,by simp [eqB,h1,h2,h3],by rw [←Bool.and_assoc];exact h4⟩
  . rename_i a b h1 h2
    obtain ⟨q,h3,h4⟩:=ih h
    exact ⟨(a==b) && q,by simp [eqB,h1,h2,h3],by rw [←Bool.and_assoc];exact h4⟩
  . cases h
theorem AOQ {t:TypeId} {d:TypeDesc} (hd:P.underlying t=some d) (hA:isAg P t=false) {xs:Array Value} {off:Nat} {x:Value} (hx:xs.toList[off]? =some x) (w:World):(part t xs off).run P w= .ok x w:=by
 have h1':xs[off]? =some x:=by simpa using hx
 simp [part,AMi hd,hA,h1']
theorem ARA {f : Field} {o' kd : Nat} (h : scalarOff P f = some (o', kd)) : f.name ≠ "_" /\ f.offset = o' /\ ((kd = 0 /\ ∃ k, P.underlying f.type = some (.int k)) ∨ (kd = 1 /\ P.underlying f.type = some .bool) ∨ (kd = 2 /\ P.underlying f.type = some .string)) := by
 unfold scalarOff at h
 split at h
 . rename_i k hk
   cases hn : f.name == "_" with
   |true=> rw [hn] at h;cases h
   |false=> rw [hn] at h;cases h;exact ⟨by simpa using hn,rfl, .inl ⟨rfl,k,hk⟩⟩
 . rename_i hk
   cases hn : f.name == "_" with
   |true=> rw [hn] at h;cases h
   |false=> rw [hn] at h;cases h;exact ⟨by simpa using hn,rfl, .inr (.inl ⟨rfl,hk⟩)⟩
 . rename_i hk
   cases hn : f.name == "_" with
   |true=> rw [hn] at h;cases h
   |false=> rw [hn] at h;cases h;exact ⟨by simpa using hn,rfl, .inr (.inr ⟨rfl,hk⟩)⟩
 . cases h
theorem ARN {ρ:Ren} {cs ds:List Value} {xs ys:Array Value} (hx:LRel ρ cs xs.toList) (hy:LRel ρ ds ys.toList):∀ {fs:List Field} {os:List (Nat×Nat)} {b:Bool},offs P fs=some os->eqB cs ds os=some b->∀w,(Op.eqFields (9998+1) xs ys fs).run P w= .ok b w:=by
 intro fs
 induction fs with
 |nil=> intro os b h1 h2 w;simp [offs] at h1;subst h1;simp [eqB] at h2;subst h2;simp [Op.eqFields]
 |cons f fs ih=>
  intro os b h1 h2 w
  simp only [offs] at h1
  split at h1
  . rename_i o' os' g1 g2
    cases h1
    obtain ⟨o',kd⟩:=o'
    obtain ⟨n1,rfl,n3⟩:=ARA g1
    have hd:∃d,P.underlying f.type=some d/\isAg P f.type=false:=by
     rcases n3 with ⟨_,k,h⟩|⟨_,h⟩|⟨_,h⟩ <;> exact ⟨_,h,by simp [isAg,h]⟩
    obtain ⟨d,hd1,hd2⟩:=hd
    simp only [eqB] at h2
    have fin:∀(q:Bool),(∀w,(Op.eqFields (9998+1) xs ys fs).run P w= .ok q w)->∀(x y:Value) (c:Bool),xs.toList[f.offset]? =some x->ys.toList[f.offset]? =some y->(∀w,(Op.equalIn (9998+1) f.type x y).run P w= .ok c w)->(Op.eqFields (9998+1) xs ys (f::fs)).run P w= .ok (c && q) w:=by
     intro q hq x y c hx' hy' hc
     simp only [Op.eqFields]
     rw [if_pos n1]
     simp only [Sem.run_bind,AOQ hd1 hd2 hx',AOQ hd1 hd2 hy',Result.andThen_ok,hc,Sem.run_ite]
     cases c <;> simp [hq]
    split at h2
    . rename_i k a k' b' e1 e2
      cases hk:ikeq k k' with
      |false=> rw [hk] at h2;cases h2
      |true=>
      rw [hk,cond_true] at h2
      have:=AL0 hk
      subst this
      obtain ⟨q,h3,rfl⟩:=Option.map_eq_some_iff.1 h2
      obtain ⟨x,i1,i2⟩:=hx.get e1
      obtain ⟨y,j1,j2⟩:=hy.get e2
      cases i2;cases j2
      obtain ⟨kk,h⟩:∃k,P.underlying f.type=some (.int k):=by
       rcases n3 with ⟨_,h⟩|⟨h,_⟩|⟨h,_⟩
       . exact h
       . cases h
       . cases h
      exact fin q (ih g2 h3) _ _ _ i1 j1 (λ w=> run_equalIn_int w _ _ _ _ _ _ h)
    . rename_i a b' e1 e2
      obtain ⟨q,h3,rfl⟩:=Option.map_eq_some_iff.1 h2
      obtain ⟨x,i1,i2⟩:=hx.get e1
      obtain ⟨y,j1,j2⟩:=hy.get e2
      cases i2;cases j2
      have h:P.underlying f.type=some .bool:=by
       rcases n3 with ⟨h,_⟩|⟨_,h⟩|⟨h,_⟩
       . cases h
       . exact h
       . cases h
      exact fin q (ih g2 h3) _ _ _ i1 j1 (λ w=> run_equalIn_bool w _ _ _ _ h)
    . rename_i a b' e1 e2
      obtain ⟨q,h3,rfl⟩:=Option.map_eq_some_iff.1 h2
      obtain ⟨x,i1,i2⟩:=hx.get e1
      obtain ⟨y,j1,j2⟩:=hy.get e2
      cases i2;cases j2
      have h:P.underlying f.type=some .string:=by
       rcases n3 with ⟨h,_⟩|⟨h,_⟩|⟨_,h⟩
       . cases h
       . cases h
       . exact h
      exact fin q (ih g2 h3) _ _ _ i1 j1 (λ w=> by rw [beq_toListBytes];exact run_equalIn_string w _ _ _ _ h)
    . cases h2
  . cases h1
theorem AVr {op:BinOp} {neg:Bool} {t t':TypeId} {x y:Operand} {x' y':X} {fs:Array Field} {os:List (Nat×Nat)} (hop:op=if neg then .neq else .eql) (hu:P.underlying t=some (.struct fs)) (hst:P.stoodInHeld t=false) (hg:P.eqGuardType P.depth t=false)
 (hos:offs P fs.toList=some os) (ho:o.op= .binOp op t x y t') (hx:trX x=some x') (hy:trX y=some y') (hr:evOp C made (.eqs os x' y' neg) e H K=some r):LocalOK P o e H K r cr:=by
 simp only [evOp] at hr
 split at hr
 . rename_i cs ds e1 e2
   obtain ⟨b,h1,h2⟩:=ASb hr
   refine ABx _ h2 λ ρ hp w a _ _ hE=> ⟨_, .of (.bool _), ?_⟩
   have q1:=vx hE hx (by simp [ho,Op.operands])
   have q2:=vx hE hy (by simp [ho,Op.operands])
   rw [e1] at q1;rw [e2] at q2
   obtain ⟨xs,g1,g2⟩:=q1.agg
   obtain ⟨ys,g3,g4⟩:=q2.agg
   have hf:P.fieldsOf t=fs:=by simp [Program.fieldsOf,hu]
   have h3:=ARN g2 g4 hos h1 w
   have h4:(Op.equalIn 10000 t (.agg xs) (.agg ys)).run P w= .ok b w:=by
    rw [show (10000:Nat)=9999+1 from rfl,run_equalIn_struct w 9999 t xs ys (by rw [hf];exact hu) hst,hf]
    exact h3
   subst hop
   cases neg with
   |false=> simp [execOp,ho,g1,g3,run_eqGuard_agg w _ _ _ _ _ _ hg,run_eql_struct,h4]
   |true=> simp [execOp,ho,g1,g3,run_eqGuard_agg w _ _ _ _ _ _ hg,run_neq_struct,h4]
 . cases hr
theorem AVt {op:BinOp} {neg:Bool} {t t':TypeId} {x y:Operand} {x' y':X} (hop:op=if neg then .neq else .eql) (ho:o.op= .binOp op t x y t') (hx:trX x=some x') (hy:trX y=some y') (hr:evOp C made (.eqT x' y' neg) e H K=some r):LocalOK P o e H K r cr:=by
 simp only [evOp] at hr
 split at hr
 . rename_i a1 a2 e1 e2
   refine ABx _ hr λ ρ hp w a _ _ hE=> ⟨_, .of (.bool _), ?_⟩
   have q1:=vx hE hx (by simp [ho,Op.operands])
   have q2:=vx hE hy (by simp [ho,Op.operands])
   rw [e1] at q1;rw [e2] at q2
   subst hop
   cases neg <;> simp [execOp,ho,q1.str,q2.str,eqGuard,binOp_string_eql,binOp_string_neq,←beq_toListBytes]
 . cases hr
theorem AbL {u:TypeId} {x i:Operand} {x' i':X} (hu:P.underlying u=some .string) (ho:o.op= .index u x i) (hx:trX x=some x') (hi:trX i=some i') (hr:evOp C made (.idt x' i') e H K=some r):LocalOK P o e H K r cr:=by
 simp only [evOp,hidt] at hr
 split at hr
 . rename_i s k n e1 e2
   split at hr
   . rename_i b hb
     refine ABx _ hr λ ρ hp w a _ _ hE=> ⟨_, .of (.int _ _), ?_⟩
     have q1:=vx hE hx (by simp [ho,Op.operands])
     have q2:=vx hE hi (by simp [ho,Op.operands])
     rw [e1] at q1;rw [e2] at q2
     simp [execOp,ho,q1.str,q2.int,Instr.index,asIntOf,run_underlying hu,hb]
   . cases hr
 . cases hr
theorem AIX {ρ:Ren} {hp:Nat->Option Blk} {w:World} (hR:Rel ρ hp w) (hG:Agree ρ hp H) {p:Option Addr} {l c n:Nat} {v':Value} {xs:List Value} (hv:V0 ρ (.slice p l c) v') (hz:l=0->n=0) (h:hcells H p n=some xs):
 ∃(p':Option Addr) (c':Nat) (ys:List Value),v'= .slice p' l c'/\LRel ρ xs ys/\xs.length=n/\∀(w2:World) (size m:Nat),w2.heap=w.heap->m * size=n->(Builtin.firstCells size m v').run P w2= .ok ⟨ys⟩ w2:=by
 unfold hcells at h
 split at h
 . rename_i hn
   cases h
   cases p with
   |none=> exact ⟨none,c, [],hv.nils, .nil,hn.symm,λ w2 size m _ _=> by simp [hv.nils,Builtin.firstCells]⟩
   |some p=>
    obtain ⟨_,c',k2,_⟩:=hv.slx
    refine ⟨_,c', [],k2, .nil,hn.symm,λ w2 size m _ hm=> ?_⟩
    simp [k2,Builtin.firstCells,hm,hn,loadCells,loadCellsFrom]
 . rename_i hn
   split at h
   . rename_i b o' s
     split at h
     . rename_i B hB
       split at h
       . rename_i hle
         cases h
         obtain ⟨_,b',d,c',k1,k2,_⟩:=hv.slc (λ h0=> hn (hz h0.1))
         have hlen:((B.cells.drop o').take n).length=n:=by simp;omega
         have hcs:∀j,j < n->∃y,w.cell? ⟨b',d+o'+j,none⟩=some y/\VRel ρ (B.cells.getD (o'+j) undef) y:=λ j hj=> by
          have hc:B.cells[o'+j]? =some (B.cells.getD (o'+j) undef):=by
           rw [List.getD_eq_getElem?_getD,List.getElem?_eq_getElem (by omega)];rfl
          have:=hR.cell ((hG b (AIM hB) k1.ne).trans hB) hc k1
          rwa [show d+(o'+j)=d+o'+j from by omega] at this
         let us:List Value:=(List.range n).map λ j=> (w.cell? ⟨b',d+o'+j,none⟩).getD undef
         refine ⟨_,c',us,k2,⟨by simp [us];omega,λ j y z hy hz=> ?_⟩,hlen,λ w2 size m he hm=> ?_⟩
         . have hj:j < n:=by have:=(List.getElem?_eq_some_iff.1 hy).1;omega
           obtain ⟨v',a1,a2⟩:=hcs j hj
           simp [us,hj,a1] at hz
           subst hz
           rw [List.getElem?_take,if_pos hj,List.getElem?_drop] at hy
           have:B.cells.getD (o'+j) undef=y:=by simp [List.getD_eq_getElem?_getD,hy]
           rwa [this] at a2
         . have hus:∀(j:Nat) v,us[j]? =some v->w2.cell? ((⟨b',d+o',none⟩:Addr).add j)=some v:=λ j v hv=> by
            have hj:j < n:=by have:=(List.getElem?_eq_some_iff.1 hv).1;simpa [us] using this
            obtain ⟨v',a1,_⟩:=hcs j hj
            rw [ANR]
            simp [us,hj,a1] at hv
            have:w2.cell? ⟨b',d+o'+j,none⟩=w.cell? ⟨b',d+o'+j,none⟩:=by simp [World.cell?,he]
            rw [this,a1,hv]
           have hl2:us.length=n:=by simp [us]
           have:=run_loadCells_list (P:=P) (w:=w2) ⟨b',d+o',none⟩ us hus
           rw [hl2] at this
           simp only [k2,Builtin.firstCells,hm,this]
       . cases h
     . cases h
   . cases h
theorem AL9 {ρ:Ren} {hp:Nat->Option Blk} {w:World} (hR:Rel ρ hp w) (hG:Agree ρ hp H) {p:Option Addr} {l c n:Nat} {v':Value} {xs:List Value} (hv:V0 ρ (.slice p l c) v') (hz:l=0->n=0) (h:hcells H p n=some xs):xs.all oneC=true:=by
 unfold hcells at h
 split at h
 . cases h;rfl
 . rename_i hn
   split at h
   . rename_i b o' s
     split at h
     . rename_i B hB
       split at h
       . cases h
         obtain ⟨_,b',d,c',k1,k2,_⟩:=hv.slc (λ h0=> hn (hz h0.1))
         obtain ⟨_,_,_,_,_,_,_,_,_,_,hone⟩:=hR.blk b B ((hG b (AIM hB) k1.ne).trans hB)
         refine List.all_eq_true.2 λ v hv=> List.all_eq_true.1 hone v (List.mem_of_mem_drop (List.mem_of_mem_take hv))
       . cases h
     . cases h
   . cases h
theorem AVE:∀ {cs:List Value} {xs:List Int},nums cs=some xs->cs=xs.map (Value.int .u8):=by
 intro cs
 induction cs with
 |nil=> intro xs h;simp [nums] at h;subst h;rfl
 |cons c cs ih=>
  intro xs h
  unfold nums at h
  split at h
  . rename_i h1;cases h1
  . rename_i n vs h1
    cases h1
    split at h
    . rename_i ys hy;cases h;rw [ih hy];rfl
    . cases h
  . cases h
theorem Abc {u v el:TypeId} {x:Operand} {x':X} (hu:P.underlying u=some (.slice el)) (he:P.underlying el=some (.int .u8)) (hv:P.underlying v=some .string) (ho:o.op= .convert u v x) (hx:trX x=some x') (hr:evOp C made (.b2s x') e H K=some r):LocalOK P o e H K r cr:=by
 simp only [evOp,hb2s] at hr
 split at hr
 . rename_i p l c e1
   split at hr
   . rename_i cs hcs
     split at hr
     . rename_i xs hxs
       refine ABx _ hr λ ρ hp w a hR hG hE=> ⟨_, .of (.str _), ?_⟩
       have q1:=vx hE hx (by simp [ho,Op.operands])
       rw [e1] at q1
       obtain ⟨p',c',ys,f1,f2,f3,f4⟩:=AIX (P:=P) hR hG q1 (λ h=> h) hcs
       have k:=f4 w 1 l rfl (by simp)
       have hys:ys=xs.map (Value.int .u8):=by
        rw [AVE hxs] at f2
        refine List.ext_getElem? λ i=> ?_
        cases hi:(xs.map (Value.int .u8))[i]? with
        |none=>
         have:ys.length<=i:=by rw [←f2.1];exact List.getElem?_eq_none_iff.1 hi
         exact List.getElem?_eq_none this
        |some y=>
         obtain ⟨z,g1,g2⟩:=f2.get hi
         rw [List.getElem?_map] at hi
         obtain ⟨n,_,rfl⟩:=Option.map_eq_some_iff.1 hi
         rw [g1];cases g2;rfl
       rw [f1] at k
       rw [show (execOp a.eval o).run P w=((convert u v (a.eval x)).run P w).andThen λ v w=> .ok (.value v) w from by simp [execOp,ho],f1]
       rw [run_convert_bytes_string w u v el p' l c' hu he hv]
       cases p' with
       |none=>
        have h0:ys= []:=by
         simp [Builtin.firstCells] at k
         simpa using k.symm
        have:xs= []:=by rw [h0] at hys;simpa using hys.symm
        subst this
        simp [Conv.bytesToString,strOfNums]
        rfl
       |some a'=>
        have hl:(loadCells a' l).run P w= .ok (xs.map (Value.int .u8)).toArray w:=by
         simp [Builtin.firstCells] at k
         rw [k,hys]
        rw [run_bytesToString w a' l c' xs hl,foldl_push_bytes]
        simp [strOfNums,ByteArray.empty,ByteArray.emptyWithCapacity]
        rfl
     . cases hr
   . cases hr
 . cases hr
theorem Ab1 (need old:Nat) (el:TypeId) (t:Nat):need<=(Question.appendCap need old el).cut t:=by
 simp [Question.cut]
theorem AN5 {ρ:Ren} {hp:Nat->Option Blk} {w:World} (hR:Rel ρ hp w) (hG:Agree ρ hp H) {u u' el el' t:TypeId} {z:List Value} {b:Nat} {p q:Option Addr} {l c n c2:Nat} {s' x':Value} {old xs:List Value} (hu:P.underlying u=some (.slice el)) (hu':P.underlying u'=some (.slice el')) (hz:zer P el=some z) (hs:sz P el=some z.length) (hb:byts P el=some b) (hb0:b≠0)
 (hvs:V0 ρ (.slice p l c) s') (hvx:V0 ρ (.slice q n c2) x') (hold:hcells H p (l * z.length)=some old) (hxs:hcells H q (n * z.length)=some xs) (hbig:(l+n) * b<=35184372088832)
 (hfull:∀p' c',s'= .slice p' l c'->¬ l+n<=c'):
 ∃(arr:Array Value) (cap:Nat) (w1:World),(∀(i:Nat) x,(old++xs)[i]? =some x->∃y,arr[i]? =some y/\VRel ρ x y)/\cap * z.length<=arr.size/\l+n<=cap/\
  (Builtin.append_ #[u,u'] t #[s',x']).run P w= .ok (.slice (some ⟨w.heap.size,0,none⟩) (l+n) cap) w1/\w1.heap=w.heap.push (.cells arr el)/\w1.os=w.os/\w1.tape=w.tape/\w1.output=w.output:=by
 obtain ⟨p',c',ys,e1,e2,e3,e4⟩:=AIX (P:=P) hR hG hvs (λ h=> by rw [h,Nat.zero_mul]) hold
 obtain ⟨q',c2',zs,f1,f2,f3,f4⟩:=AIX (P:=P) hR hG hvx (λ h=> by rw [h,Nat.zero_mul]) hxs
 obtain ⟨it,zv,h1,h2,h3⟩:=ANA hz
 have hit:it.size=z.length/\it.bytes=b:=by
  unfold sz at hs;unfold byts at hb;rw [h1] at hs hb;simp at hs hb;exact ⟨hs,hb⟩
 have hnf:=hfull p' c' e1
 let cap:=(Question.appendCap (l+n) c' el).cut (w.tape w.drawn (.appendCap (l+n) c' el))
 have hcap:l+n<=cap:=Ab1 _ _ _ _
 let w0:World:=w.drew
 refine ⟨⟨ys⟩++⟨zs⟩++Builtin.zeroCells zv.cells (cap - (l+n)),cap, { w0 with heap:=w0.heap.push (.cells (⟨ys⟩++⟨zs⟩++Builtin.zeroCells zv.cells (cap - (l+n))) el) },λ i x hi=> ?_, ?_,hcap, ?_,rfl,rfl,rfl,rfl⟩
 . obtain ⟨y,g1,g2⟩:=(e2.append f2).get hi
   refine ⟨y, ?_,g2⟩
   have hlt:i < (ys++zs).length:=(List.getElem?_eq_some_iff.1 g1).1
   have:((⟨ys⟩++⟨zs⟩++Builtin.zeroCells zv.cells (cap - (l+n)):Array Value)).toList[i]? =some y:=by
    simp only [Array.toList_append]
    rw [List.getElem?_append_left hlt];exact g1
   rwa [Array.getElem?_toList] at this
 . have i1:ys.length=l * z.length:=by rw [←e2.1,e3]
   have i2:zs.length=n * z.length:=by rw [←f2.1,f3]
   have i3:zv.cells.size=z.length:=by rw [←h3];simp
   have i4:cap * z.length=(l+n) * z.length+(cap - (l+n)) * z.length:=by rw [←Nat.add_mul];congr 1;omega
   simp [Builtin.zeroCells,i1,i2,i3]
   rw [i4,Nat.add_mul]
   exact Nat.le_refl _
 . have hne:(¬ l+n<=c'):=hnf
   have hneed:l+n < 2 ^ 46:=by
    have:l+n<=(l+n) * b:=Nat.le_mul_of_pos_right _ (Nat.pos_of_ne_zero hb0)
    omega
   have hnx:¬ (2 ^ 48 < Builtin.nextslicecap (l+n) c' * b):=by
    have h1:=nextslicecap_le (need:=l+n) (old:=c') (by omega)
    have h2:Builtin.nextslicecap (l+n) c' * b<=2 * (l+n) * b:=Nat.mul_le_mul_right _ h1
    rw [Nat.mul_assoc] at h2
    omega
   have hmax:¬ ((IntKind.i64.max:Int) < ((l+n:Nat):Int)):=by simp [IntKind.max,IntKind.signed,IntKind.bits];omega
   have k1:=e4 w0 z.length l rfl rfl
   have k2:=f4 w0 z.length n rfl rfl
   subst e1 f1
   unfold Builtin.append_
   simp [run_underlying hu,run_underlying hu',AFW hs,Builtin.lenOf,hne,typeInfo,h1,hit.2,hnx,hb0]
   have hfo:(Question.appendCap (l+n) c' el).forced=false:=rfl
   have k1':(Builtin.firstCells z.length l (Value.slice p' l c')).run P w.drew= .ok ⟨ys⟩ w.drew:=k1
   have k2':(Builtin.firstCells z.length n (Value.slice q' n c2')).run P w.drew= .ok ⟨zs⟩ w.drew:=k2
   simp [hfo,k1',k2',zeroValue,typeInfo,h1,h2,newRow,newObj,Sem.run]
   refine ⟨rfl, ?_⟩
   show w.drew.alloc _=w.drew.alloc _
   congr 2
   apply Array.ext'
   simp
   rfl
theorem AVu {c:Call} {u u' el el':TypeId} {s x:Operand} {s' x':X} {z:List Value} {b:Nat} (hc:c.callee= .builtin .append) (ht:c.argTypes.toList= [u,u']) (ha:c.args.toList= [s,x]) (hu:P.underlying u=some (.slice el)) (hu':P.underlying u'=some (.slice el')) (hz:zer P el=some z) (hs:sz P el=some z.length) (hb:byts P el=some b) (hb0:b≠0)
 (ho:o.op= .call c) (hx1:trX s=some s') (hx2:trX x=some x') (hr:evOp C made (.apn z b s' x') e H K=some r):LocalOK P o e H K r true:=by
 have ht':c.argTypes= #[u,u']:=Array.ext' ht
 have ha':c.args= #[s,x]:=Array.ext' ha
 have hm1:s∈o.op.operands:=by simp [ho,Op.operands,Call.operands,hc,ha']
 have hm2:x∈o.op.operands:=by simp [ho,Op.operands,Call.operands,hc,ha']
 obtain ⟨cs,hrun⟩:=AF7 P hc ho
 simp only [evOp,hapnS] at hr
 split at hr
 . rename_i p l cz q n c2 e1 e2
   split at hr
   . rename_i xs hxs
     unfold hapn at hr
     split at hr
     . cases hr
     . rename_i hcu
       split at hr
       . rename_i hn
         subst hn
         split at hr
         . rename_i hlc
           refine ABx _ hr λ ρ hp w a hR hG hE=> ?_
           have q1:=vx hE hx1 hm1
           have q2:=vx hE hx2 hm2
           rw [e1] at q1;rw [e2] at q2
           obtain ⟨q',c2',zs,f1,f2,f3,f4⟩:=AIX (P:=P) hR hG q2 (λ h=> by simp) hxs
           have key:∃p',a.eval s= .slice p' l cz:=by
            cases p with
            |none=> exact ⟨none,q1.nils⟩
            |some p=>
             obtain ⟨_,c',k2,k3,k4⟩:=q1.slx
             rcases k3 with k3|k3
             . subst k3;exact ⟨_,k2⟩
             . exact (hcu k3).elim
           obtain ⟨p',k1⟩:=key
           refine ⟨_,q1, ?_⟩
           rw [hrun,ht',ha']
           have k5:=f4 w z.length 0 rfl (by simp)
           have h0:zs= []:=by
            have:=f2.1;rw [f3] at this;simp at this;exact List.eq_nil_of_length_eq_zero this.symm
           subst h0
           have hl0:(builtin .append #[u,u'] o.type cs #[a.eval s,a.eval x]).run P w= .ok (.value (.slice p' l cz)) w:=by
            rw [k1,f1]
            rw [f1] at k5
            unfold builtin Builtin.append_
            cases p' with
            |none=> simp [run_underlying hu,run_underlying hu',AFW hs,Builtin.lenOf,hlc,k5]
            |some p'=> simp [run_underlying hu,run_underlying hu',AFW hs,Builtin.lenOf,hlc,k5,storeCells]
           rw [k1] at hl0 ⊢
           simp only [List.map_toArray,List.map_cons,List.map_nil,k1]
           exact hl0
         . cases hr
       . rename_i hn
         split at hr
         . cases hr
         . rename_i hnc
           split at hr
           . rename_i hbig
             split at hr
             . rename_i old hold
               refine ARF _ (old++xs) z.length (λ ρ hp w hR hG hE=> by obtain ⟨a,hE⟩:=hE;have q1:=vx hE hx1 hm1;have q2:=vx hE hx2 hm2;rw [e1] at q1;rw [e2] at q2;rw [List.all_append,AL9 hR hG q1 (λ h=> by rw [h,Nat.zero_mul]) hold,AL9 hR hG q2 (λ h=> by rw [h,Nat.zero_mul]) hxs];rfl) hr λ ρ hp w a hR hG hE=> ?_
               have q1:=vx hE hx1 hm1
               have q2:=vx hE hx2 hm2
               rw [e1] at q1;rw [e2] at q2
               obtain ⟨arr,cap,w1,g1,g0,g2,g3,g4,g5,g6,g7⟩:=AN5 (P:=P) (t:=o.type) hR hG hu hu' hz hs hb hb0 q1 q2 hold hxs hbig (by
                intro p' c' he
                cases p with
                |none=> have:=q1.nils;rw [this] at he;cases he;exact hnc
                |some p=>
                 obtain ⟨_,c'',k2,k3,k4⟩:=q1.slx
                 rw [k2] at he;cases he
                 rcases k3 with k3|k3
                 . subst k3;exact hnc
                 . exact (hcu k3).elim)
               refine ⟨arr,el,_,w1,cap,g1,g0,λ ρ' h=> .of (.slc ⟨_,h⟩ (.inr rfl) g2 (λ _ _=> by simp [cp,h])), ?_,g4,g5,g6,g7⟩
               rw [hrun,ht',ha']
               simp [builtin,g3]
             . cases hr
           . cases hr
   . cases hr
 . cases hr
end pure
variable {P:Program} {R:Type}
def SP (o:Oper) (a:Act) (ρ:Ren) (H:Heap) (w:World) (v:Value) (H':Heap):Act->World->Prop:=λ a' w'=>
 ∃ρ' v',a'=a.put o.dst v'/\V0 ρ' v v'/\Goes ρ (hblk H) w ρ' (hblk H') w'/\Grow ρ ρ' H.length H'.length
def SeqOK (P:Program) (o:Oper) (e:Env) (H:Heap) (K:Value->Heap->Option R) (r:R):Prop:=
 ∃v H',K v H'=some r/\H.length<=H'.length/\∀(ρ:Ren) (w:World) (a:Act) (Q:Exit->Act->World->Prop),
  Rel ρ (hblk H) w->Dom ρ H.length->Reads ρ e a o->o.wp P a w (SP o a ρ H w v H') Q
theorem AGD (H nb:Heap):hblk (H++nb)=hpu (hblk H) H.length nb:=by
 funext b
 unfold hpu
 rw [AIH,List.getElem?_append]
 split
 . rename_i h
   rw [if_neg (by omega),AIH]
 . rename_i h
   split
   . rw [AIH]
   . rename_i h2
     rw [List.getElem?_eq_none (by omega),AIH,List.getElem?_eq_none (by omega)]
theorem LocalOK.seq {o:Oper} {e:Env} {H:Heap} {K:Value->Heap->Option R} {r:R} {cr:Bool} (h:LocalOK P o e H K r cr):SeqOK P o e H K r:=by
 obtain ⟨v,nb,h1,_,h3⟩:=h
 refine ⟨v,H++nb,h1,by simp,λ ρ w a Q hR hD hE=> ?_⟩
 refine Oper.wp_mono ?_ (h3 ρ (hblk H) w a Q hR (λ b _ _=> rfl) (λ b hb _=> hD b hb) hE)
 rintro a' w' ⟨ρ',v',e1,e2,e3,e4⟩
 exact ⟨ρ',v',e1,e2,by rw [AGD];exact e3,λ b hb=> by simpa using e4 b hb⟩
theorem AEy (H:Heap) (n:Nat) (y:Option Blk) (b:Nat):hblk (hset H n y) b=if b=n/\n < H.length then y else hblk H b:=by
 induction H generalizing n b with
 |nil=> simp [hset,hblk]
 |cons x l ih=>
  cases n with
  |zero=> cases b with
   |zero=> simp [hset,hblk]
   |succ b=> simp [hset,hblk]
  |succ n=> cases b with
   |zero=> simp [hset,hblk]
   |succ b=> simp [hset,hblk,ih]
theorem AAX (H:Heap) (n:Nat) (y:Option Blk):(hset H n y).length=H.length:=by
 induction H generalizing n with
 |nil=> rfl
 |cons x l ih=> cases n with
  |zero=> rfl
  |succ n=> simp [hset,ih]
theorem ATB (w:World) (g:Nat) (cs:Array Value):(w.setRow g cs).os=w.os/\(w.setRow g cs).tape=w.tape/\(w.setRow g cs).output=w.output/\(w.setRow g cs).heap.size=w.heap.size:=by
 simp [World.setRow]
theorem AVD {ρ:Ren} {v v':Value} (h:VRel ρ v v') (k:oneC v=true):v'.oneCell'=true:=by
 cases h <;> first|rfl|(simp [oneC] at k)
theorem ARE {ρ:Ren} {vs vs':List Value} (h:LRel ρ vs vs') (k:vs.all oneC=true):∀v∈vs',v.oneCell'=true:=by
 intro v hv
 obtain ⟨i,hi⟩:=List.mem_iff_getElem?.1 hv
 have hlt:i < vs.length:=by rw [h.1];exact (List.getElem?_eq_some_iff.1 hi).1
 exact AVD (h.2 i _ v (List.getElem?_eq_getElem hlt) hi) (List.all_eq_true.1 k _ (List.getElem_mem hlt))
theorem AQP {ρ:Ren} {hp hp':Nat->Option Blk} {w:World} (hR:Rel ρ hp w) {b b' m o bz n':Nat} {B:Blk} {arr:Array Value} {el:TypeId} {cells':List Value} (hb:hp b=some B) (hro:B.ro=false) (hρ:ρ b=some (b',0,m))
 (hw:w.heap[b']? =some (.cells arr el (0,0))) {vs':List Value} (hle:o+vs'.length<=arr.size)
 {ρ':Ren} (hle':Le ρ ρ') (hn':ρ' n'=some (b',0,m)) (hm:m * bz<=arr.size) (hone:cells'.all oneC=true)
 (hp1:∀c,hp' c=if c=n' then some ⟨cells',false,bz⟩ else if c=b then none else hp c) (hdead:∀c B',c≠n'->hp' c=some B'->∀x,ρ' c=some x->ρ c=some x)
 (hc:∀(i:Nat) v,cells'[i]? =some v->∃v',(arr.toList.take o++vs'++arr.toList.drop (o+vs'.length))[i]? =some v'/\VRel ρ v v'):
 Goes ρ hp w ρ' hp' (w.setRow b' (arr.toList.take o++vs'++arr.toList.drop (o+vs'.length)).toArray):=by
 obtain ⟨s1,s2,s3,s4⟩:=ATB w b' (arr.toList.take o++vs'++arr.toList.drop (o+vs'.length)).toArray
 have hsz:((arr.toList.take o++vs'++arr.toList.drop (o+vs'.length)).toArray).size=arr.size:=by simp;omega
 have hother:∀c B',c≠n'->hp' c=some B'->c≠b/\hp c=some B':=by
  intro c B' hne h
  rw [hp1,if_neg hne] at h
  by_cases cb:c=b
  . rw [if_pos cb] at h;cases h
  . rw [if_neg cb] at h;exact ⟨cb,h⟩
 refine ⟨hle',⟨λ c B' hc'=> ?_,λ b1 B1 b2 B2 x1 d1 x2 d2 k1 k2 hne hro1 e1 e2=> ?_⟩,⟨s1,s2,s3,by rw [s4];exact Nat.le_refl _,λ c hc' hno=> ?_⟩,λ c B' x d hc' hx=> ?_⟩
 . by_cases e:c=n'
   . subst e
     rw [hp1,if_pos rfl] at hc';cases hc'
     refine ⟨b',0,m,_,el,(0,0),hn',setRow_heap w b' _ _ el _ hw,λ i v hv=> ?_,λ _=> ⟨rfl,rfl,by rw [hsz];exact hm⟩,hone⟩
     obtain ⟨v',g1,g2⟩:=hc i v hv
     exact ⟨v',by simpa using g1,g2.mono hle'⟩
   . obtain ⟨cb,h⟩:=hother c B' e hc'
     obtain ⟨x,d,m',arr',el',fr,e1,e2,e3,e4⟩:=hR.blk c B' h
     have hx:x≠b':=λ he=> hR.inj b B c B' b' 0 x d hb h (λ h=> cb h.symm) hro ⟨_,hρ⟩ ⟨_,e1⟩ he.symm
     refine ⟨x,d,m',arr',el',fr,hle' _ _ e1,by rw [setRow_other w b' x _ hx];exact e2,λ i v hv=> ?_,e4⟩
     obtain ⟨v',g1,g2⟩:=e3 i v hv
     exact ⟨v',g1,g2.mono hle'⟩
 . have back:∀c B' x d,c≠n'->hp' c=some B'->At ρ' c x d->At ρ c x d:=λ c B' x d hne h ⟨m2,hx⟩=> ⟨m2,hdead c B' hne h _ hx⟩
   by_cases c1:b1=n'
   . subst c1
     have c2:b2≠b1:=λ h=> hne h.symm
     obtain ⟨cb,h⟩:=hother b2 B2 c2 k2
     have:=hR.inj b B b2 B2 b' 0 x2 d2 hb h (λ h=> cb h.symm) hro ⟨_,hρ⟩ (back _ _ _ _ c2 k2 e2)
     obtain ⟨rfl,_⟩:=At.uniq ⟨_,hn'⟩ e1
     exact this
   . obtain ⟨cb1,h1⟩:=hother b1 B1 c1 k1
     by_cases c2:b2=n'
     . subst c2
       obtain ⟨rfl,_⟩:=At.uniq ⟨_,hn'⟩ e2
       exact hR.inj b1 B1 b B x1 d1 b' 0 h1 hb cb1 hro1 (back _ _ _ _ c1 k1 e1) ⟨_,hρ⟩
     . obtain ⟨cb2,h2⟩:=hother b2 B2 c2 k2
       exact hR.inj b1 B1 b2 B2 x1 d1 x2 d2 h1 h2 hne hro1 (back _ _ _ _ c1 k1 e1) (back _ _ _ _ c2 k2 e2)
 . exact setRow_other w b' c _ (λ h=> hno b B 0 hb hro (by rw [h];exact ⟨_,hρ⟩))
 . by_cases e:c=n'
   . subst e
     obtain ⟨rfl,_⟩:=At.uniq ⟨_,hn'⟩ hx
     exact .inr (.inr ⟨b,B,0,hb,hro,_,hρ⟩)
   . obtain ⟨cb,h⟩:=hother c B' e hc'
     obtain ⟨m2,hx⟩:=hx
     exact .inr (.inl ⟨B',h,⟨m2,hdead c B' e hc' _ hx⟩,id⟩)
theorem ANu {ρ:Ren} {hp:Nat->Option Blk} {w:World} (hR:Rel ρ hp w) {b b' d:Nat} {B:Blk} (hb:hp b=some B) (hro:B.ro=false) (hρ:At ρ b b' d):
 ∃m arr el,d=0/\ρ b=some (b',0,m)/\w.heap[b']? =some (.cells arr el (0,0))/\LRel ρ B.cells (arr.toList.take B.cells.length)/\B.cells.length<=arr.size/\m * B.sz<=arr.size/\B.cells.all oneC=true:=by
 obtain ⟨b2,d2,m2,arr,el,fr,e1,e2,e3,e4,e5⟩:=hR.blk b B hb
 obtain ⟨m,hρ⟩:=hρ
 rw [hρ] at e1;cases e1
 obtain ⟨rfl,rfl,hm⟩:=e4 hro
 have hsize:B.cells.length<=arr.size:=by
  cases h:B.cells.length with
  |zero=> omega
  |succ n=>
   obtain ⟨v',h2,_⟩:=e3 n _ (List.getElem?_eq_getElem (by omega))
   have:=(Array.getElem?_eq_some_iff.1 h2).1
   omega
 refine ⟨_,arr,el,rfl,hρ,e2,⟨by simp;omega,λ i x y hx hy=> ?_⟩,hsize,hm,e5⟩
 obtain ⟨v',g1,g2⟩:=e3 i x hx
 have hi:i < B.cells.length:=(List.getElem?_eq_some_iff.1 hx).1
 rw [List.getElem?_take,if_pos hi] at hy
 have:arr.toList[i]? =some v':=by simpa using g1
 rw [this] at hy;cases hy
 exact g2
theorem ANE {ρ:Ren} {H:Heap} {w:World} (hR:Rel ρ (hblk H) w) {b b' d o:Nat} {B:Blk} (hb:hblk H b=some B) (hro:B.ro=false) (hρ:At ρ b b' d) {vs vs':List Value} (hv:LRel ρ vs vs') (hle:o+vs.length<=B.cells.length)
 (h0:vs.all oneC=true):d=0/\∃w',(storeCells ⟨b',o,none⟩ vs').run P w= .ok () w'/\Goes ρ (hblk H) w ρ (hblk (hset H b (some ⟨splice B.cells o vs,false,B.sz⟩))) w':=by
 obtain ⟨m,arr,el,rfl,h2,h3,h4,h5,h6,h7⟩:=ANu hR hb hro hρ
 have hl:=hv.1
 have h1:=ARE hv h0
 refine ⟨rfl,_,by simpa using run_storeCells_at P b' o el vs' 0 arr w h3 (by omega) h1,AQP hR hb hro h2 h3 (o:=o) (vs':=vs') (by omega) (Le.refl ρ) (n':=b) (bz:=B.sz) h2 h6 (by unfold splice;rw [List.all_append,List.all_append,h0,Bool.and_true,Bool.and_eq_true];exact ⟨List.all_eq_true.2 λ v hv=> List.all_eq_true.1 h7 v (List.mem_of_mem_take hv),List.all_eq_true.2 λ v hv=> List.all_eq_true.1 h7 v (List.mem_of_mem_drop hv)⟩) (cells':=splice B.cells o vs) (λ c=> ?_) (λ _ _ _ _ _ h=> h) (λ i v hi=> ?_)⟩
 . rw [AEy]
   have:=AIM hb
   by_cases e:c=b
   . subst e;simp [this]
   . simp [e]
 . have k1:LRel ρ (splice B.cells o vs) (splice (arr.toList.take B.cells.length) o vs'):=AQT h4 hv o
   obtain ⟨y,g1,g2⟩:=k1.get hi
   refine ⟨y, ?_,g2⟩
   have hi2:i < B.cells.length:=by have:=(List.getElem?_eq_some_iff.1 hi).1;rwa [AQp hle] at this
   unfold splice at g1
   rw [List.append_assoc,List.getElem?_append] at g1
   rw [List.append_assoc,List.getElem?_append]
   rw [List.take_take] at g1
   have e1:min o B.cells.length=o:=by omega
   rw [e1] at g1
   split at g1
   . rename_i hh;rw [if_pos hh];exact g1
   . rename_i hh
     rw [if_neg hh]
     rw [List.getElem?_append] at g1 ⊢
     split at g1
     . rename_i hh2;rw [if_pos hh2];exact g1
     . rename_i hh2
       rw [if_neg hh2]
       rw [List.getElem?_drop] at g1 ⊢
       rw [List.getElem?_take] at g1
       split at g1
       . exact g1
       . cases g1
section seq
variable {o:Oper} {e:Env} {H:Heap} {K:Value->Heap->Option R} {r:R} {C:Tab R} {made:List (Nat×Nat×Nat)}
theorem ASK {a:Act} {w:World} {next:Act->World->Prop} {Q:Exit->Act->World->Prop} {w':World}
 (h:(execOp a.eval o).run P w= .ok .skip w') (hn:next (a.put o.dst undef) w'):o.wp P a w next Q:=by
 unfold Oper.wp;rw [h];exact hn
theorem ASP {l:List Value} {i:Nat} (v:Value) (h:i < l.length):l.set i v=splice l i [v]:=by
 apply List.ext_getElem?
 intro j
 unfold splice
 rw [List.append_assoc,List.getElem?_append]
 have:(List.take i l).length=i:=by simp;omega
 rw [this]
 by_cases c:j < i
 . rw [if_pos c,List.getElem?_take,if_pos c,List.getElem?_set_ne (by omega)]
 . rw [if_neg c]
   by_cases d:j=i
   . subst d;rw [List.getElem?_set_self h];simp
   . rw [List.getElem?_set_ne (by omega),List.getElem?_append_right (by simp;omega),List.getElem?_drop]
     congr 1
     simp
     omega
theorem AR7 {p:Option Addr} {vs:List Value} {K':Heap->Option R} (h:hst H p vs K'=some r):∃b o' s B,p=some ⟨b,o',s⟩/\hblk H b=some B/\B.ro=false/\o'+vs.length<=B.cells.length/\vs.all oneC=true/\K' (hset H b (some ⟨splice B.cells o' vs,false,B.sz⟩))=some r:=by
 unfold hst at h
 split at h
 . rename_i b o' s
   split at h
   . rename_i B hB
     cases hro:B.ro with
     |true=> rw [hro] at h;cases h
     |false=>
      rw [hro,cond_false] at h
      split at h
      . rename_i hle
        cases hone:vs.all oneC with
        |false=> rw [hone] at h;cases h
        |true=> rw [hone,cond_true] at h;exact ⟨b,o',s,B,rfl,hB,hro,hle,rfl,h⟩
      . cases h
   . cases h
 . cases h
theorem AYz {p:Option Addr} {v:Value} {K':Heap->Option R} (h:hst1 H p v K'=some r):∃b o' s B,p=some ⟨b,o',s⟩/\hblk H b=some B/\B.ro=false/\o' < B.cells.length/\K' (hset H b (some ⟨splice B.cells o' [v],false,B.sz⟩))=some r:=by
 unfold hst1 at h
 split at h
 . rename_i b o' s
   split at h
   . rename_i B hB
     cases hro:B.ro with
     |true=> rw [hro] at h;cases h
     |false=>
      rw [hro,cond_false] at h
      split at h
      . rename_i hle
        rw [ASP v hle] at h
        exact ⟨b,o',s,B,rfl,hB,hro,hle,h⟩
      . cases h
   . cases h
 . cases h
theorem Agl {u:TypeId} {x v:Operand} {x' v':X} {n:Nat} (hs:sz P u=some n) (ho:o.op= .store u x v) (hx:trX x=some x') (hv:trX v=some v') (hr:evOp C made (.st n x' v') e H K=some r):SeqOK P o e H K r:=by
 simp only [evOp] at hr
 have main:∀(cs:List Value) (b o':Nat) (sp:Option Nat) (B:Blk),gx e x'= .pointer (some ⟨b,o',sp⟩)->hblk H b=some B->B.ro=false->o'+cs.length<=B.cells.length->cs.all oneC=true->cs.length=n->
  K undef (hset H b (some ⟨splice B.cells o' cs,false,B.sz⟩))=some r->(∀(ρ:Ren) (av:Value),V0 ρ (gx e v') av->LRel ρ cs av.cells.toList)->SeqOK P o e H K r:=by
  intro cs b o' sp B e1 hB hro hle hone hn hk hcs
  refine ⟨undef,_,hk,by rw [AAX];exact Nat.le_refl _,λ ρ w a Q hR hD hE=> ?_⟩
  have q1:=vx hE hx (by simp [ho,Op.operands])
  have q2:=vx hE hv (by simp [ho,Op.operands])
  rw [e1] at q1
  obtain ⟨rfl,b',d,h1,h2⟩:=q1.ptr
  have h3:=hcs ρ _ q2
  obtain ⟨rfl,w',h4,h5⟩:=ANE (P:=P) hR hB hro h1 h3 hle hone
  have h6:(a.eval v).cells.size=n:=by have:=h3.1;simp at this;omega
  refine ASK (w':=w') ?_ ⟨ρ,undef,rfl, .inl rfl,h5, .refl _ _ _⟩
  simp [execOp,ho,h2,Instr.storeAt,Instr.sureAddr,storeVar,AFW hs,h6,h4]
 split at hr
 . rename_i p e1
   split at hr
   . rename_i cs e2
     cases hn:Nat.beq cs.toList.length n with
     |false=> rw [hn] at hr;cases hr
     |true=>
      rw [hn,cond_true] at hr
      obtain ⟨b,o',s,B,rfl,hB,hro,hle,hone,hk⟩:=AR7 hr
      refine main cs.toList b o' s B e1 hB hro hle hone (Nat.eq_of_beq_eq_true hn) hk λ ρ av hav=> ?_
      rw [e2] at hav
      obtain ⟨ds,rfl,h⟩:=hav.agg
      exact h
   . cases hr
   . rename_i u' hna hnt
     cases hn:Nat.beq n 1 with
     |false=> rw [hn] at hr;cases hr
     |true=>
      rw [hn,cond_true] at hr
      obtain ⟨b,o',s,B,rfl,hB,hro,hle,hk⟩:=AYz hr
      have h1:=Nat.eq_of_beq_eq_true hn
      have hcell:∀v:Value,(∀cs,v≠ .agg cs)->v.cells= #[v]:=by intro v h;cases v <;> first|rfl|exact (h _ rfl).elim
      have hok:okv (gx e v')=true:=by
       cases hg:gx e v' <;> first|rfl|(exact (hnt _ hg).elim)
      refine main [gx e v'] b o' s B e1 hB hro hle ?_ h1.symm hk λ ρ av hav=> ?_
      . simp
        cases hg:gx e v' <;> first|rfl|(exact (hna _ hg).elim)|(exact (hnt _ hg).elim)
      . have hv2:=hav.rel hok
        have:=AOX hv2
        rwa [hcell _ (λ cs h=> hna cs h)] at this
 . cases hr
end seq
variable {P:Program} {R:Type}
theorem Goes.sub {ρ ρ':Ren} {hp h1 h2:Nat->Option Blk} {w w':World} (g:Goes ρ hp w ρ' h1 w') (hs:∀b B,h2 b=some B->h1 b=some B):Goes ρ hp w ρ' h2 w':=
 ⟨g.le,⟨λ b B hb=> g.rel.blk b B (hs b B hb),λ b1 B1 b2 B2 x1 d1 x2 d2 k1 k2=> g.rel.inj b1 B1 b2 B2 x1 d1 x2 d2 (hs _ _ k1) (hs _ _ k2)⟩,g.kept,λ b B x d hb=> g.ancs b B x d (hs _ _ hb)⟩
section seq
variable {o:Oper} {e:Env} {H:Heap} {K:Value->Heap->Option R} {r:R} {C:Tab R} {made:List (Nat×Nat×Nat)}
theorem ANW {ρ:Ren} {p:Option Addr} {l c:Nat} {v':Value} (q1:V0 ρ (.slice p l c) v') (hcu:¬ c=unk):∃p',v'= .slice p' l c/\(p=none->p'=none)/\∀b o s,p=some ⟨b,o,s⟩->c≠0->s=none/\l<=c/\∃b' d,At ρ b b' d/\p'=some ⟨b',d+o,none⟩:=by
 cases p with
 |none=> exact ⟨none,q1.nils,λ _=> rfl,λ _ _ _ h _=> by cases h⟩
 |some p=>
  obtain ⟨b1,o1,s1⟩:=p
  by_cases hc0:c=0
  . obtain ⟨a',c',k2,k3,k4⟩:=q1.slx
    rcases k3 with k3|k3
    . subst k3;exact ⟨_,k2,(λ h=> by cases h),(λ _ _ _ _ h=> (h hc0).elim)⟩
    . exact (hcu k3).elim
  . obtain ⟨rfl,b',d,c',k1,k2,k3,k4,_⟩:=q1.slc (λ h=> h.2.elim hc0 (λ h1=> hcu h1.1))
    rcases k3 with k3|k3
    . subst k3;exact ⟨_,k2,(λ h=> by cases h),(λ _ _ _ h _=> by cases h;exact ⟨rfl,k4,_,_,k1,rfl⟩)⟩
    . exact (hcu k3).elim
theorem Abd {c:Call} {u u' el el':TypeId} {s x:Operand} {s' x':X} {z:List Value} {b:Nat} (hc:c.callee= .builtin .append) (ht:c.argTypes.toList= [u,u']) (ha:c.args.toList= [s,x]) (hu:P.underlying u=some (.slice el)) (hu':P.underlying u'=some (.slice el')) (hz:zer P el=some z) (hs:sz P el=some z.length) (hb:byts P el=some b) (hb0:b≠0)
 (ho:o.op= .call c) (hx1:trX s=some s') (hx2:trX x=some x') (hr:evOp C made (.app z b s' x') e H K=some r):SeqOK P o e H K r:=by
 have ht':c.argTypes= #[u,u']:=Array.ext' ht
 have ha':c.args= #[s,x]:=Array.ext' ha
 have hm1:s∈o.op.operands:=by simp [ho,Op.operands,Call.operands,hc,ha']
 have hm2:x∈o.op.operands:=by simp [ho,Op.operands,Call.operands,hc,ha']
 obtain ⟨cs,hrun⟩:=AF7 P hc ho
 have hrun':∀(a:Act) (w:World) (v':Value) (w1:World),(Builtin.append_ #[u,u'] o.type #[a.eval s,a.eval x]).run P w= .ok v' w1->(execOp a.eval o).run P w= .ok (.value v') w1:=by
  intro a w v' w1 h
  rw [hrun,ht',ha']
  simp [builtin,h]
 have agr:∀ρ:Ren,Agree ρ (hblk H) H:=λ ρ b _ _=> rfl
 simp only [evOp,happS] at hr
 split at hr
 . rename_i p l cz q n c2 e1 e2
   split at hr
   . rename_i xs hxs
     have grow:∀(old:List Value) (H':Heap),hcells H p (l * z.length)=some old->(l+n) * b<=35184372088832->(∀(ρ:Ren) (av:Value),V0 ρ (.slice p l cz) av->(∀p' c',av= .slice p' l c'->¬ l+n<=c')->True)->
      (∀b B,hblk (H'++ [some ⟨old++xs,false,z.length⟩]) b=some B->hblk (H++ [some ⟨old++xs,false,z.length⟩]) b=some B)->H'.length=H.length->
      ∀(ρ:Ren) (w:World) (a:Act) (Q:Exit->Act->World->Prop),Rel ρ (hblk H) w->Dom ρ H.length->Reads ρ e a o->(∀p' c',a.eval s= .slice p' l c'->¬ l+n<=c')->
       o.wp P a w (SP o a ρ H w (.slice (some ⟨H.length,0,none⟩) (l+n) unk) (H'++ [some ⟨old++xs,false,z.length⟩])) Q:=by
      intro old H' hold hbig _ hsub hlen ρ w a Q hR hD hE hfull
      have q1:=vx hE hx1 hm1
      have q2:=vx hE hx2 hm2
      rw [e1] at q1;rw [e2] at q2
      obtain ⟨arr,cap,w1,g1,g0,g2,g3,g4,g5,g6,g7⟩:=AN5 (P:=P) (t:=o.type) hR (agr ρ) hu hu' hz hs hb hb0 q1 q2 hold hxs hbig hfull
      have hn:ρ H.length=none:=hD _ (Nat.le_refl _)
      have hg:=AR2 (n:=H.length) (m:=cap) (bz:=z.length) hR hn g1 g0 (by rw [List.all_append,AL9 hR (agr ρ) q1 (λ h=> by rw [h,Nat.zero_mul]) hold,AL9 hR (agr ρ) q2 (λ h=> by rw [h,Nat.zero_mul]) hxs];rfl) g4 g5 g6 g7
      rw [←AGD] at hg
      refine AG5 (hrun' a w _ _ g3) ⟨_,_,rfl, .of (.slc ⟨cap,by simp⟩ (.inr rfl) g2 (λ _ _=> by simp [cp])),hg.sub hsub,λ b hb=> ?_⟩
      by_cases c:b=H.length
      . exact .inr (by simp [hlen];omega)
      . simp only [c,if_false] at hb;exact .inl hb
     unfold happ at hr
     split at hr
     . rename_i hcu
       split at hr
       . rename_i pb po ps
         split at hr
         . rename_i B hB
           cases hro:B.ro with
           |true=> rw [hro] at hr;cases hr
           |false=>
            rw [hro,cond_false] at hr
            split at hr
            . rename_i hcond
              obtain ⟨rfl,hl,hbz,hbig⟩:=hcond
              have hlt:=AIM hB
              have hold:hcells H (some ⟨pb,0,ps⟩) (l * z.length)=some B.cells:=by
               unfold hcells
               split
               . rename_i h0;rw [h0] at hl;rw [List.eq_nil_of_length_eq_zero hl.symm]
               . simp [hB,hl]
              refine ⟨_,_,hr,by simp [AAX],λ ρ w a Q hR hD hE=> ?_⟩
              have q1:=vx hE hx1 hm1
              have q2:=vx hE hx2 hm2
              rw [e1] at q1;rw [e2] at q2
              obtain ⟨rfl,b',d,c',k1,k2,k3,k4,k5⟩:=q1.slc (λ h0=> h0.2.elim (λ h1=> by rw [hcu] at h1;simp [unk] at h1) (λ h1=> by have:=h1.2.1;omega))
              obtain ⟨m,arr,el2,rfl,h2,h3,h4,h5,h6,h7⟩:=ANu hR hB hro k1
              have hc'm:c'<=m:=by have:=k5 hcu rfl;simpa [cp,h2] using this
              have hsub:∀b2 B2,hblk (hset H pb none++ [some ⟨B.cells++xs,false,z.length⟩]) b2=some B2->hblk (H++ [some ⟨B.cells++xs,false,z.length⟩]) b2=some B2:=by
               intro b2 B2 h
               rw [AGD] at h ⊢
               unfold hpu at h ⊢
               rw [AAX] at h
               split at h
               . rename_i hh;rw [if_pos hh];exact h
               . rename_i hh
                 rw [if_neg hh]
                 rw [AEy] at h
                 split at h
                 . cases h
                 . exact h
              by_cases hfit:l+n<=c'
              . obtain ⟨q',c2',zs,f1,f2,f3,f4⟩:=AIX (P:=P) hR (agr ρ) q2 (λ h=> by simp [h]) hxs
                have hroom:l * z.length+zs.length<=arr.size:=by
                 have i1:zs.length=n * z.length:=by rw [←f2.1,f3]
                 have i2:(l+n) * z.length<=m * z.length:=Nat.mul_le_mul_right _ (by omega)
                 rw [Nat.add_mul] at i2
                 rw [hbz] at h6
                 omega
                have hxone:=AL9 hR (agr ρ) q2 (λ h=> by rw [h,Nat.zero_mul]) hxs
                have hnew:ρ H.length=none:=hD _ (Nat.le_refl _)
                have hpne:pb≠H.length:=by omega
                have hll:l * z.length=B.cells.length:=hl
                let ρ':Ren:=λ b=> if b=H.length then some (b',0,m) else ρ b
                have hle':Le ρ ρ':=by
                 intro b x hb
                 show (if b=H.length then _ else _)=_
                 rw [if_neg (by rintro rfl;rw [hnew] at hb;cases hb)];exact hb
                have hst:=run_storeCells_at P b' (l * z.length) el2 zs 0 arr w h3 (by omega) (ARE f2 hxone)
                have hg:=AQP (n':=H.length) (ρ':=ρ') (bz:=z.length) (cells':=B.cells++xs) (o:=l * z.length) (vs':=zs) hR hB hro h2 h3 hroom hle' (by simp [ρ']) (by rw [hbz] at h6;exact h6)
                 (by rw [List.all_append,h7,hxone];rfl) (hp':=hblk (hset H pb none++ [some ⟨B.cells++xs,false,z.length⟩])) (λ c=> by
                  rw [AGD];unfold hpu;rw [AAX]
                  by_cases e:c=H.length
                  . subst e;simp [hblk]
                  . rw [if_neg e,if_neg (by simp;omega),AEy]
                    by_cases e2:c=pb
                    . subst e2;simp [hlt]
                    . simp [e2]) (λ c B' hne _ x hx=> by simpa [ρ',hne] using hx) (λ i v hi=> by
                  rw [List.append_assoc]
                  have hlen:(arr.toList.take (l * z.length)).length=l * z.length:=by simp;omega
                  rw [List.getElem?_append] at hi ⊢
                  rw [hlen]
                  rw [hll] at hlen ⊢
                  split at hi
                  . rename_i hh
                    rw [if_pos hh]
                    obtain ⟨y,g1,g2⟩:=h4.get hi
                    exact ⟨y,g1,g2⟩
                  . rename_i hh
                    rw [if_neg hh]
                    obtain ⟨y,g1,g2⟩:=f2.get hi
                    exact ⟨y,by rw [List.getElem?_append_left (List.getElem?_eq_some_iff.1 g1).1];exact g1,g2⟩)
                have k6:=f4 w z.length n rfl rfl
                refine AG5 (hrun' a w (.slice (some ⟨b',0+0,none⟩) (l+n) c') _ ?_) ⟨ρ',_,rfl, .of (.slc ⟨m,by simp [ρ']⟩ (.inr rfl) hfit (λ _ _=> by simp [cp,ρ'];exact hc'm)),hg,λ b hb=> ?_⟩
                . rw [k2,f1]
                  rw [f1] at k6
                  unfold Builtin.append_
                  simp [run_underlying hu,run_underlying hu',AFW hs,Builtin.lenOf,hfit,k6,ANR]
                  simp at hst
                  rw [hst]
                  simp
                . by_cases c:b=H.length
                  . exact .inr (by simp [AAX];omega)
                  . simp only [ρ',c,if_false] at hb;exact .inl hb
              . exact grow B.cells (hset H pb none) hold hbig (λ _ _ _ _=> trivial) hsub (AAX _ _ _) ρ w a Q hR hD hE (λ p' c'' he=> by rw [k2] at he;cases he;exact hfit)
            . cases hr
         . cases hr
       . cases hr
     . rename_i hcu
       split at hr
       . rename_i hfit
         split at hr
         . rename_i hn
           subst hn
           refine ⟨_,_,hr,Nat.le_refl _,λ ρ w a Q hR hD hE=> ?_⟩
           have q1:=vx hE hx1 hm1
           have q2:=vx hE hx2 hm2
           rw [e1] at q1;rw [e2] at q2
           obtain ⟨q',c2',zs,f1,f2,f3,f4⟩:=AIX (P:=P) hR (agr ρ) q2 (λ h=> by simp [h]) hxs
           obtain ⟨p',k1,_⟩:=ANW q1 hcu
           have k5:=f4 w z.length 0 rfl (by simp)
           have h0:zs= []:=by have:=f2.1;rw [f3] at this;simp at this;exact List.eq_nil_of_length_eq_zero this.symm
           subst h0
           refine AG5 (hrun' a w (a.eval s) w ?_) ⟨ρ,_,rfl,q1, .refl hR, .refl _ _ _⟩
           rw [k1,f1]
           rw [f1] at k5
           unfold Builtin.append_
           simp at hfit
           cases p' with
           |none=> simp [run_underlying hu,run_underlying hu',AFW hs,Builtin.lenOf,hfit,k5]
           |some p'=> simp [run_underlying hu,run_underlying hu',AFW hs,Builtin.lenOf,hfit,k5,storeCells]
         . rename_i hn
           obtain ⟨b1,o1,s1,B,hp,hB,hro,hle,hone,hk⟩:=AR7 hr
           cases p with
           |none=> simp [pad] at hp
           |some p=>
            obtain ⟨b2,o2,s2⟩:=p
            simp only [pad] at hp;cases hp
            refine ⟨_,_,hk,by rw [AAX];exact Nat.le_refl _,λ ρ w a Q hR hD hE=> ?_⟩
            have q1:=vx hE hx1 hm1
            have q2:=vx hE hx2 hm2
            rw [e1] at q1;rw [e2] at q2
            obtain ⟨q',c2',zs,f1,f2,f3,f4⟩:=AIX (P:=P) hR (agr ρ) q2 (λ h=> by simp [h]) hxs
            obtain ⟨p',k1,_,k3⟩:=ANW q1 hcu
            obtain ⟨rfl,hlc,b',d,k4,rfl⟩:=k3 _ _ _ rfl (by omega)
            obtain ⟨rfl,w',g1,g2⟩:=ANE (P:=P) hR hB hro k4 f2 hle hone
            have k5:=f4 w z.length n rfl rfl
            refine AG5 (hrun' a w (.slice (some ⟨b',0+o2,none⟩) (l+n) cz) w' ?_) ⟨ρ,_,rfl, .of (.slc k4 (.inl rfl) hfit (λ h=> (hcu h).elim)),g2, .refl _ _ _⟩
            rw [k1,f1]
            rw [f1] at k5
            unfold Builtin.append_
            simp [run_underlying hu,run_underlying hu',AFW hs,Builtin.lenOf,hfit,k5,ANR,g1]
       . rename_i hfit
         split at hr
         . rename_i hbig
           split at hr
           . rename_i old hold
             refine ⟨_,_,hr,by simp,λ ρ w a Q hR hD hE=> grow old H hold hbig (λ _ _ _ _=> trivial) (λ _ _ h=> h) rfl ρ w a Q hR hD hE (λ p' c' he=> ?_)⟩
             have q1:=vx hE hx1 hm1
             rw [e1] at q1
             obtain ⟨p2,k1,_⟩:=ANW q1 hcu
             rw [k1] at he;cases he;exact hfit
           . cases hr
         . cases hr
   . cases hr
 . cases hr
end seq
variable {P:Program} {R:Type}
def Tri (P:Program) (f:Nat) (args:List Value) (H:Heap) (v:Value) (H':Heap):Prop:=
 (∃ fn, P.funcs[f]? = some fn /\ fn.body.isSome = true /\ (fn.name == "runtime.NumGoroutine") = false) /\ H.length <= H'.length /\ ∀ (ρ : Ren) (w : World) (args' : List Value), Rel ρ (hblk H) w -> Dom ρ H.length -> LRel ρ args args' ->
  Calls P f ⟨args'⟩ w λ e w'=>∃ρ' v',e= .returned v'/\V0 ρ' v v'/\Goes ρ (hblk H) w ρ' (hblk H') w'/\Grow ρ ρ' H.length H'.length
def CSound (P:Program) (C:Tab R):Prop:=∀f args H K r,C f args H K=some r->∃v H',Tri P f args H v H'/\K v H'=some r
theorem AOT (H:Heap) (b:Nat):hblk (roH H) b=(hblk H b).map λ B=> ⟨B.cells,true,B.sz⟩:=by
 induction H generalizing b with
 |nil=> simp [roH,hblk]
 |cons x l ih=> cases b with
  |zero=> simp [roH,hblk]
  |succ b=> simpa [roH,hblk] using ih b
theorem AKs (H:Heap):(roH H).length=H.length:=by simp [roH]
theorem Rel.ro {ρ:Ren} {hp:Nat->Option Blk} {H:Heap} {w:World} (h:Rel ρ hp w) (hs:∀b B,hblk H b=some B->hp b=some B):Rel ρ (hblk (roH H)) w:=by
 refine ⟨λ b B hb=> ?_,λ b1 B1 b2 B2 x1 d1 x2 d2 k1 k2 hne hro=> ?_⟩
 . rw [AOT] at hb
   obtain ⟨B0,h1,rfl⟩:=Option.map_eq_some_iff.1 hb
   obtain ⟨b',d,m,arr,el,fr,e1,e2,e3,e4,e5⟩:=h.blk b B0 (hs b B0 h1)
   exact ⟨b',d,m,arr,el,fr,e1,e2,e3,λ h=> (by cases h),e5⟩
 . rw [AOT] at k1
   obtain ⟨B0,h1,rfl⟩:=Option.map_eq_some_iff.1 k1
   cases hro
theorem ARb {ρ:Ren} {H:Heap} {w w':World} (h:Kept ρ (hblk (roH H)) w w'):∀c,c < w.heap.size->w'.heap[c]? =w.heap[c]? :=by
 intro c hc
 refine h.block c hc λ b B d hb hro=> ?_
 rw [AOT] at hb
 obtain ⟨B0,h1,rfl⟩:=Option.map_eq_some_iff.1 hb
 cases hro
theorem Rel.same {ρ:Ren} {hp:Nat->Option Blk} {w w':World} (h:Rel ρ hp w) (k:∀c,c < w.heap.size->w'.heap[c]? =w.heap[c]?):Rel ρ hp w':=by
 refine ⟨λ b B hb=> ?_,h.inj⟩
 obtain ⟨b',d,m,arr,el,fr,e1,e2,e3⟩:=h.blk b B hb
 exact ⟨b',d,m,arr,el,fr,e1,by rw [k b' (Array.getElem?_eq_some_iff.1 e2).1];exact e2,e3⟩
section seq
variable {o:Oper} {e:Env} {H:Heap} {K:Value->Heap->Option R} {r:R} {C:Tab R} {made:List (Nat×Nat×Nat)}
theorem AbU {c:Call} {u u' el:TypeId} {d s:Operand} {d' s':X} {n:Nat} (hc:c.callee= .builtin .copy) (ht:c.argTypes.toList= [u,u']) (ha:c.args.toList= [d,s]) (hu:P.underlying u=some (.slice el)) (hs:sz P el=some n)
 (ho:o.op= .call c) (hx1:trX d=some d') (hx2:trX s=some s') (hr:evOp C made (.cpy n d' s') e H K=some r):SeqOK P o e H K r:=by
 have ht':c.argTypes= #[u,u']:=Array.ext' ht
 have ha':c.args= #[d,s]:=Array.ext' ha
 have hm1:d∈o.op.operands:=by simp [ho,Op.operands,Call.operands,hc,ha']
 have hm2:s∈o.op.operands:=by simp [ho,Op.operands,Call.operands,hc,ha']
 obtain ⟨cs,hrun⟩:=AF7 P hc ho
 have hrun':∀(a:Act) (w:World) (v':Value) (w1:World),(Builtin.copy_ #[u,u'] o.type #[a.eval d,a.eval s]).run P w= .ok v' w1->(execOp a.eval o).run P w= .ok (.value v') w1:=by
  intro a w v' w1 h
  rw [hrun,ht',ha']
  simp [builtin,h]
 have agr:∀ρ:Ren,Agree ρ (hblk H) H:=λ ρ b _ _=> rfl
 simp only [evOp] at hr
 split at hr
 . rename_i p l c1 q m c2 e1 e2
   unfold hcpy at hr
   split at hr
   . rename_i xs hxs
     have src:∀(ρ:Ren) (w:World) (a:Act),Rel ρ (hblk H) w->Reads ρ e a o->∃p' c' q' c2' ys,a.eval d= .slice p' l c'/\V0 ρ (.slice p l c1) (.slice p' l c')/\a.eval s= .slice q' m c2'/\LRel ρ xs ys/\xs.length=min m l * n/\(Builtin.firstCells n (min m l) (.slice q' m c2')).run P w= .ok ⟨ys⟩ w:=by
      intro ρ w a hR hE
      have q1:=vx hE hx1 hm1
      have q2:=vx hE hx2 hm2
      rw [e1] at q1;rw [e2] at q2
      obtain ⟨q',c2',ys,f1,f2,f3,f4⟩:=AIX (P:=P) hR (agr ρ) q2 (λ h=> by simp [h]) hxs
      have k:=f4 w n (min m l) rfl rfl
      rw [f1] at k
      cases p with
      |none=> exact ⟨none,c1,q',c2',ys,q1.nils,by rw [q1.nils] at q1;exact q1,f1,f2,f3,k⟩
      |some p=>
       obtain ⟨_,c',k2,_⟩:=q1.slx
       exact ⟨_,c',q',c2',ys,k2,by rw [k2] at q1;exact q1,f1,f2,f3,k⟩
     split at hr
     . rename_i h0
       refine ⟨_,_,hr,Nat.le_refl _,λ ρ w a Q hR hD hE=> ?_⟩
       obtain ⟨p',c',q',c2',ys,g1,g2,g3,g4,g5,g6⟩:=src ρ w a hR hE
       have:ys= []:=by have:=g4.1;rw [g5,h0] at this;simp at this;exact List.eq_nil_of_length_eq_zero this.symm
       subst this
       refine AG5 (hrun' a w (.int .i64 0) w ?_) ⟨ρ,_,rfl, .of (.int _ _), .refl hR, .refl _ _ _⟩
       rw [g1,g3]
       rw [h0] at g6
       have h0':Nat.min m l=0:=h0
       unfold Builtin.copy_
       cases p' with
       |none=> simp [run_underlying hu,AFW hs,Builtin.lenOf,h0',g6,goInt]
       |some p'=> simp [run_underlying hu,AFW hs,Builtin.lenOf,h0',g6,goInt,storeCells]
     . rename_i h0
       obtain ⟨b,o',sp,B,rfl,hB,hro,hle,hone,hk⟩:=AR7 hr
       refine ⟨_,_,hk,by rw [AAX];exact Nat.le_refl _,λ ρ w a Q hR hD hE=> ?_⟩
       obtain ⟨p',c',q',c2',ys,g1,g2,g3,g4,g5,g6⟩:=src ρ w a hR hE
       obtain ⟨rfl,b',dd,c3,k1,k2,k3,k4,k5⟩:=g2.slc (λ h=> h0 (by simp [h.1]))
       cases k2
       obtain ⟨rfl,w',i1,i2⟩:=ANE (P:=P) hR hB hro k1 g4 hle hone
       refine AG5 (hrun' a w (.int .i64 (min m l:Nat)) w' ?_) ⟨ρ,_,rfl, .of (.int _ _),i2, .refl _ _ _⟩
       rw [g1,g3]
       have e4:Nat.min m l=min m l:=rfl
       unfold Builtin.copy_
       simp [run_underlying hu,AFW hs,Builtin.lenOf,e4,g6,i1,goInt]
   . cases hr
 . cases hr
theorem ARe (w:World) (g n:Nat) {arr:Array Value} {el:TypeId} (h:w.heap[g]? =some (.cells arr el (0,0))):(w.freeze ⟨g,n,none⟩ 1).heap[g]? =some (.cells arr el (n,n+1))/\(∀c,c≠g->(w.freeze ⟨g,n,none⟩ 1).heap[c]? =w.heap[c]?)/\(w.freeze ⟨g,n,none⟩ 1).heap.size=w.heap.size/\(w.freeze ⟨g,n,none⟩ 1).os=w.os/\(w.freeze ⟨g,n,none⟩ 1).tape=w.tape/\(w.freeze ⟨g,n,none⟩ 1).output=w.output:=by
 unfold World.freeze
 rw [if_neg (by decide)]
 refine ⟨?_,λ c hc=> ?_,by simp,rfl,rfl,rfl⟩
 . simp [Array.getElem?_modify,h]
 . simp [Array.getElem?_modify,Ne.symm hc]
theorem ATi {ρ:Ren} {hp hp':Nat->Option Blk} {w:World} (hR:Rel ρ hp w) {b b' m:Nat} {B:Blk} {arr:Array Value} {el:TypeId} (hb:hp b=some B) (hro:B.ro=false) (hρ:ρ b=some (b',0,m)) (hw:w.heap[b']? =some (.cells arr el (0,0))) (he:∀i,hp' i=if i=b then some ⟨B.cells,true,B.sz⟩ else hp i) (n:Nat):Goes ρ hp w ρ hp' (w.freeze ⟨b',n,none⟩ 1):=by
 obtain ⟨f1,f2,f3,f4,f5,f6⟩:=ARe w b' n hw
 have hx:∀i B',hp' i=some B'->∃B0,hp i=some B0/\B0.cells=B'.cells/\B0.sz=B'.sz/\(B'.ro=false->B0=B'/\i≠b):=by
  intro i B' h'
  rw [he] at h'
  split at h'
  . rename_i e;subst e;cases h';exact ⟨B,hb,rfl,rfl,λ hh=> by cases hh⟩
  . rename_i e;exact ⟨B',h',rfl,rfl,λ _=> ⟨rfl,e⟩⟩
 refine ⟨Le.refl _,⟨λ i B' h'=> ?_,λ b1 B1 b2 B2 x1 d1 x2 d2 k1 k2 hne hr a1 a2=> ?_⟩,⟨f4,f5,f6,by rw [f3];exact Nat.le_refl _,λ c hc hno=> f2 c (λ hh=> hno b B 0 hb hro (by rw [hh];exact ⟨_,hρ⟩))⟩,λ i B' x d h' hx'=> ?_⟩
 . obtain ⟨B0,g1,g2,g3,g4⟩:=hx i B' h'
   by_cases e:i=b
   . subst e
     rw [hb] at g1;cases g1
     obtain ⟨x,d,m2,arr2,el2,fr,e1,e2,e3,e4,e5⟩:=hR.blk i B hb
     rw [hρ] at e1;cases e1
     rw [hw] at e2;cases e2
     exact ⟨b',0,m,arr,el,_,hρ,f1,λ j v hv=> e3 j v (by rw [g2];exact hv),λ hr=> ((g4 hr).2 rfl).elim,by rw [←g2];exact e5⟩
   . obtain ⟨x,d,m2,arr2,el2,fr,e1,e2,e3,e4,e5⟩:=hR.blk i B0 g1
     have hxb:x≠b':=λ hh=> hR.inj b B i B0 b' 0 x d hb g1 (λ h=> e h.symm) hro ⟨_,hρ⟩ ⟨_,e1⟩ hh.symm
     refine ⟨x,d,m2,arr2,el2,fr,e1,by rw [f2 x hxb];exact e2,λ j v hv=> e3 j v (by rw [g2];exact hv),λ hr=> ?_,by rw [←g2];exact e5⟩
     have:=(g4 hr).1
     subst this
     exact e4 hr
 . obtain ⟨C1,g1,_,_,g4⟩:=hx b1 B1 k1
   obtain ⟨C2,h1,_⟩:=hx b2 B2 k2
   have:=(g4 hr).1
   subst this
   exact hR.inj b1 C1 b2 C2 x1 d1 x2 d2 g1 h1 hne hr a1 a2
 . obtain ⟨B0,g1,_,_,g4⟩:=hx i B' h'
   exact .inr (.inl ⟨B0,g1,hx',λ hr=> by rw [(g4 hr).1];exact hr⟩)
theorem AbR {u v el el':TypeId} {s:Operand} {s':X} (hu:P.underlying u=some (.slice el)) (hv:P.underlying v=some (.slice el')) (he:P.underlying el=some (.int .u8)) (huv:(u==v)=true)
 (ho:o.op= .convert u v s) (hx:trX s=some s') (hr:evOp C made (.cvs s') e H K=some r):SeqOK P o e H K r:=by
 have hm:s∈o.op.operands:=by simp [ho,Op.operands]
 have huv':u=v:=by simpa using huv
 subst huv'
 rw [hu] at hv;cases hv
 simp only [evOp] at hr
 split at hr
 . rename_i p l c e1
   unfold hcvs at hr
   split at hr
   . cases hr
   . rename_i h0
     split at hr
     . rename_i B hB
       cases hro:B.ro with
       |true=> rw [hro] at hr;cases hr
       |false=>
        rw [hro,cond_false] at hr
        refine ⟨_,_,hr,by rw [AAX];exact Nat.le_refl _,λ ρ w a Q hR hD hE=> ?_⟩
        have q1:=vx hE hx hm
        rw [e1] at q1
        obtain ⟨b,o',sp⟩:=p
        obtain ⟨rfl,b',dd,c3,k1,k2,k3,k4,k5⟩:=q1.slc (λ h=> h0 h.1)
        obtain ⟨m,arr,el2,rfl,h2,h3,h4,h5,h6,h7⟩:=ANu hR hB hro k1
        have hsh:w.shape? b'=some (el2,arr.size):=by unfold World.shape?;rw [h3]
        have hg:=ATi (hp':=hblk (hset H b (some ⟨B.cells,true,B.sz⟩))) hR hB hro h2 h3 (λ i=> by
         rw [AEy]
         by_cases hib:i=b
         . rw [if_pos ⟨hib,AIM hB⟩,if_pos hib]
         . rw [if_neg (λ hh=> hib hh.1),if_neg hib]) arr.size
        refine AG5 (v':= .slice (some ⟨b',0+o',none⟩) l c3) (w':=w.freeze ⟨b',arr.size,none⟩ 1) ?_ ⟨ρ,_,rfl, .of (.slc k1 k3 k4 k5),hg, .refl _ _ _⟩
        simp [execOp,ho,k2,convert,run_underlying hu,run_underlying he,markStringish,hsh]
     . cases hr
 . cases hr
theorem AbX {c:Call} {u el:TypeId} {s:Operand} {s':X} {n:Nat} {z:List Value} (hc:c.callee= .builtin .clear) (ht:c.argTypes.toList= [u]) (ha:c.args.toList= [s]) (hu:P.underlying u=some (.slice el)) (hz:zer P el=some z) (hs:sz P el=some n) (hn:n=z.length) (hn0:n≠0) (hf:z.all ptrFreeC=true)
 (ho:o.op= .call c) (hx:trX s=some s') (hr:evOp C made (.clr z s') e H K=some r):SeqOK P o e H K r:=by
 have ht':c.argTypes= #[u]:=Array.ext' ht
 have ha':c.args= #[s]:=Array.ext' ha
 have hm:s∈o.op.operands:=by simp [ho,Op.operands,Call.operands,hc,ha']
 obtain ⟨cs,hrun⟩:=AF7 P hc ho
 have hrun':∀(a:Act) (w:World) (v':Value) (w1:World),(Builtin.clear_ #[u] o.type #[a.eval s]).run P w= .ok v' w1->(execOp a.eval o).run P w= .ok (.value v') w1:=by
  intro a w v' w1 h
  rw [hrun,ht',ha']
  simp [builtin,h]
 simp only [evOp] at hr
 split at hr
 . rename_i p l c1 e1
   unfold hclr at hr
   split at hr
   . rename_i h0
     subst h0
     refine ⟨_,_,hr,Nat.le_refl _,λ ρ w a Q hR hD hE=> ?_⟩
     have q1:=vx hE hx hm
     rw [e1] at q1
     refine AG5 (hrun' a w undef w ?_) ⟨ρ,_,rfl, .inl rfl, .refl hR, .refl _ _ _⟩
     cases p with
     |none=> rw [q1.nils];unfold Builtin.clear_;simp [run_underlying hu,undef]
     |some p=>
      obtain ⟨a',c',k2,_⟩:=q1.slx
      rw [k2];unfold Builtin.clear_;simp [run_underlying hu,undef]
   . rename_i h0
     obtain ⟨b,o',sp,B,rfl,hB,hro,hle,hone,hk⟩:=AR7 hr
     obtain ⟨it,zv,z1,z2,z3⟩:=ANA hz
     have hz0:zv.cells.toList≠ []:=by rw [z3];intro h;rw [h] at hn;exact hn0 hn
     have hzc:(Builtin.zeroCells zv.cells l).toList=mkCells z l:=by
      unfold Builtin.zeroCells
      rw [AVH,ANs (n:=l) hz0 rfl,z3]
     refine ⟨_,_,hk,by rw [AAX];exact Nat.le_refl _,λ ρ w a Q hR hD hE=> ?_⟩
     have q1:=vx hE hx hm
     rw [e1] at q1
     obtain ⟨rfl,b',dd,c3,k1,k2,k3,k4,k5⟩:=q1.slc (λ h=> h0 h.1)
     have hL:LRel ρ (mkCells z l) (mkCells z l):=⟨rfl,λ i x y a1 a2=> by
      rw [a1] at a2;cases a2
      have hm:x∈rep z l:=by rw [←AVH];exact List.mem_of_getElem? a1
      have:=List.all_eq_true.1 (AOF hf l) x hm
      exact VRel.self (AL7 this) (AQW this) ρ⟩
     obtain ⟨rfl,w',i1,i2⟩:=ANE (P:=P) hR hB hro k1 hL hle hone
     refine AG5 (hrun' a w undef w' ?_) ⟨ρ,_,rfl, .inl rfl,i2, .refl _ _ _⟩
     rw [k2]
     obtain ⟨l,rfl⟩:∃l',l=l'+1:=⟨l - 1,by omega⟩
     unfold Builtin.clear_
     simp [run_underlying hu,zeroValue,typeInfo,z1,z2,hzc,undef]
     simp [i1]
 . cases hr
theorem ARR {k:RK} {v:Value} {K':Value->Option R} (h:asR k v K'=some r):K' v=some r∨K' undef=some r:=by
 cases k with
 |none=> simp only [asR] at h;exact .inr h
 |one k=> simp only [asR] at h;exact .inl (AV7 h)
 |tup ks=> cases v <;> simp only [asR] at h <;> first|(cases h;done)|exact .inl (Ab8 h)
def CallOK (P:Program) (o:Oper) (e:Env) (H Hs:Heap) (K:Value->Heap->Option R) (r:R) (cr:Bool):Prop:=
 ∃v nb,K v (H++nb)=some r/\(cr=false->nb= [])/\∀(ρ:Ren) (hp:Nat->Option Blk) (w:World) (a:Act) (Q:Exit->Act->World->Prop),
  Rel ρ hp w->(∀b B,hblk Hs b=some B->hp b=some B)->Dom ρ H.length->Reads ρ e a o->o.wp P a w (LP o a ρ hp w H.length v nb) Q
theorem CallOK.seq {cr:Bool} {Hs:Heap} (h:CallOK P o e H Hs K r cr) (hs:∀b B,hblk Hs b=some B->hblk H b=some B):SeqOK P o e H K r:=by
 obtain ⟨v,nb,h1,_,h3⟩:=h
 refine ⟨v,H++nb,h1,by simp,λ ρ w a Q hR hD hE=> ?_⟩
 refine Oper.wp_mono ?_ (h3 ρ (hblk H) w a Q hR hs hD hE)
 rintro a' w' ⟨ρ',v',e1,e2,e3,e4⟩
 exact ⟨ρ',v',e1,e2,by rw [AGD];exact e3,λ b hb=> by simpa using e4 b hb⟩
theorem AOO {c : Call} {f : FuncId} {fn : Func} (hc : c.callee = .value (.func f)) (hf : P.funcs[f]? = some fn) (hb : fn.body.isSome = true) (hn : (fn.name == "runtime.NumGoroutine") = false) (ho : o.op = .call c) (a : Act) (w : World) :
 (execOp a.eval o).run P w= .ok (.enter f (c.args.map a.eval)) w:=by
 have hb':fn.body≠none:=by cases h:fn.body <;> simp_all
 have hn' : ¬ fn.name = "runtime.NumGoroutine" := by simpa using hn
 simp [execOp,ho,resolve,hc,Deferred.ofValue,Act.eval,invoke,callFunc,hf,hn',hb']
theorem AKu {a:Act} {w:World} {next:Act->World->Prop} {Q:Exit->Act->World->Prop} {f:FuncId} {args:Array Value}
 (h:(execOp a.eval o).run P w= .ok (.enter f args) w) (hc:Calls P f args w λ e w'=>∃v,e= .returned v/\next (a.put o.dst v) w'):o.wp P a w next Q:=by
 unfold Oper.wp
 rw [h,Oper.upon_enter]
 refine hc.mono λ e w' ⟨v,he,hn⟩=> ?_
 subst he
 exact hn
theorem AQ0 {a:Act} {c:Call}:(⟨c.args.toList.map a.eval⟩:Array Value)=c.args.map a.eval:=Array.ext' (by simp)
theorem AYl {c : Call} {f : FuncId} {fn : Func} {xs : List X} {k : RK} (hC : CSound P C) (hc : c.callee = .value (.func f)) (hf : P.funcs[f]? = some fn) (hb : fn.body.isSome = true) (hn : (fn.name == "runtime.NumGoroutine") = false)
 (hx:trXs c.args.toList=some xs) (ho:o.op= .call c) (hr:evOp C made (.call f xs k) e H K=some r):SeqOK P o e H K r:=by
 simp only [evOp] at hr
 cases hk:allOk (gxs e xs) with
 |false=> rw [hk] at hr;cases hr
 |true=>
  rw [hk,cond_true] at hr
  obtain ⟨v,H',⟨_,h1,h2⟩,h3⟩:=hC _ _ _ _ _ hr
  have main:∀v2,K v2 H'=some r->(v2=v∨v2=undef)->SeqOK P o e H K r:=by
   intro v2 hk2 hv2
   refine ⟨v2,H',hk2,h1,λ ρ w a Q hR hD hE=> ?_⟩
   have hm:∀x∈c.args.toList,x∈o.op.operands:=λ x hx=> by simp [ho,Op.operands,Call.operands,hc];exact .inr (by simpa using hx)
   have h4:=h2 ρ w (c.args.toList.map a.eval) hR hD (ANC hE hx hm hk)
   rw [AQ0] at h4
   refine AKu (AOO hc hf hb hn ho a w) (h4.mono λ e' w' ⟨ρ',v',q1,q2,q3,q4⟩=> ⟨v',q1,ρ',v',rfl, ?_,q3,q4⟩)
   rcases hv2 with rfl|rfl
   . exact q2
   . exact .inl rfl
  rcases ARR h3 with h|h
  . exact main v h (.inl rfl)
  . exact main undef h (.inr rfl)
theorem AYk {c : Call} {f : FuncId} {fn : Func} {xs : List X} {k : RK} (hC : CSound P C) (hc : c.callee = .value (.func f)) (hf : P.funcs[f]? = some fn) (hb : fn.body.isSome = true) (hn : (fn.name == "runtime.NumGoroutine") = false)
 (hx:trXs c.args.toList=some xs) (ho:o.op= .call c) (hr:evOp C made (.calp f xs k) e H K=some r):CallOK P o e H H K r false:=by
 simp only [evOp] at hr
 cases hk:allOk (gxs e xs) with
 |false=> rw [hk] at hr;cases hr
 |true=>
  rw [hk,cond_true] at hr
  obtain ⟨v,H',⟨_,h1,h2⟩,h3⟩:=hC _ _ _ _ _ hr
  cases hfree:ptrFree v with
  |false=> rw [hfree] at h3;cases h3
  |true=>
   rw [hfree,cond_true] at h3
   have main:∀v2,K v2 H=some r->(v2=v∨v2=undef)->CallOK P o e H H K r false:=by
    intro v2 hk2 hv2
    refine ⟨v2, [],by simpa using hk2,λ _=> rfl,λ ρ hp w a Q hR hs hD hE=> ?_⟩
    have hm:∀x∈c.args.toList,x∈o.op.operands:=λ x hx=> by simp [ho,Op.operands,Call.operands,hc];exact .inr (by simpa using hx)
    have h4:=h2 ρ w (c.args.toList.map a.eval) (hR.ro hs) (by rw [AKs];exact hD) (ANC hE hx hm hk)
    rw [AQ0] at h4
    refine AKu (AOO hc hf hb hn ho a w) (h4.mono λ e' w' ⟨ρ',v',q1,q2,q3,q4⟩=> ⟨v',q1,ρ,v',rfl, ?_, ?_,λ b hb=> .inl hb⟩)
    . rcases hv2 with rfl|rfl
      . rcases q2 with q|q|q
        . exact .inl q
        . exact .inr (.inl q)
        . exact .of (q.free hfree ρ)
      . exact .inl rfl
    . rw [ARd]
      have hkeep:=ARb q3.kept
      exact ⟨Le.refl _,hR.same hkeep,⟨q3.kept.os,q3.kept.tape,q3.kept.output,q3.kept.size,λ c hc _=> hkeep c hc⟩,λ b B x d hb hx=> .inr (.inl ⟨B,hb,hx,id⟩)⟩
   rcases ARR h3 with h|h
   . exact main v h (.inl rfl)
   . exact main undef h (.inr rfl)
theorem AYm {c : Call} {f : FuncId} {fn : Func} {xs : List X} {hide : List Nat} {k : RK} (hC : CSound P C) (hc : c.callee = .value (.func f)) (hf : P.funcs[f]? = some fn) (hb : fn.body.isSome = true) (hn : (fn.name == "runtime.NumGoroutine") = false)
 (hlen:(hideH H made hide).length=H.length) (hx:trXs c.args.toList=some xs) (ho:o.op= .call c) (hr:evOp C made (.calf f xs hide k) e H K=some r):CallOK P o e H (hideH H made hide) K r true:=by
 simp only [evOp] at hr
 cases hk:allOk (gxs e xs) with
 |false=> rw [hk] at hr;cases hr
 |true=>
  rw [hk,cond_true] at hr
  obtain ⟨v,H',⟨_,h1,h2⟩,h3⟩:=hC _ _ _ _ _ hr
  rw [AKs,hlen] at h1
  have main:∀v2,K v2 (H++H'.drop H.length)=some r->(v2=v∨v2=undef)->CallOK P o e H (hideH H made hide) K r true:=by
   intro v2 hk2 hv2
   refine ⟨v2,H'.drop H.length,hk2,(λ h=> by cases h),λ ρ hp w a Q hR hs hD hE=> ?_⟩
   have hm:∀x∈c.args.toList,x∈o.op.operands:=λ x hx=> by simp [ho,Op.operands,Call.operands,hc];exact .inr (by simpa using hx)
   have h4:=h2 ρ w (c.args.toList.map a.eval) (hR.ro hs) (by rw [AKs,hlen];exact hD) (ANC hE hx hm hk)
   rw [AQ0] at h4
   have hl2:H.length+(H'.drop H.length).length=H'.length:=by simp;omega
   refine AKu (AOO hc hf hb hn ho a w) (h4.mono λ e' w' ⟨ρ',v',q1,q2,q3,q4⟩=> ⟨v',q1,ρ',v',rfl, ?_, ?_,λ b hb=> ?_⟩)
   . rcases hv2 with rfl|rfl
     . exact q2
     . exact .inl rfl
   . have hkeep:=ARb q3.kept
     have hget:∀b,hpu hp H.length (H'.drop H.length) b=if H.length<=b/\b < H'.length then hblk H' b else hp b:=by
      intro b
      unfold hpu
      rw [hl2]
      split
      . rename_i hh
        rw [AIH,AIH,List.getElem?_drop,show H.length+(b - H.length)=b from by omega]
      . rfl
     have hanc:∀b B x d,H.length<=b->hblk H' b=some B->At ρ' b x d->w.heap.size<=x:=by
      intro b B x d hlb hb hx
      rcases q3.ancs b B x d hb hx with h|⟨B0,g1,_⟩|⟨b0,B0,d0,g1,g2,_⟩
      . exact h
      . have:=AIM g1;rw [AKs,hlen] at this;omega
      . rw [AOT] at g1
        obtain ⟨B1,_,rfl⟩:=Option.map_eq_some_iff.1 g1
        cases g2
     have hold:=hR.same hkeep
     have hlt:∀b B x d,hp b=some B->At ρ b x d->x < w.heap.size:=by
      intro b B x d hb ⟨m,hx⟩
      obtain ⟨b',d',m',arr,el,fr,e1,e2,_⟩:=hR.blk b B hb
      rw [hx] at e1;cases e1
      exact (Array.getElem?_eq_some_iff.1 e2).1
     have hback:∀b B x d,hp b=some B->At ρ' b x d->At ρ b x d:=by
      intro b B x d hb ⟨m,hx⟩
      obtain ⟨b',d',m',arr,el,fr,e1,e2,_⟩:=hR.blk b B hb
      have:=q3.le _ _ e1
      rw [hx] at this;cases this
      exact ⟨_,e1⟩
     refine ⟨q3.le,⟨λ b B hb=> ?_,λ b1 B1 b2 B2 x1 d1 x2 d2 k1 k2 hne hro1 e1 e2=> ?_⟩,⟨q3.kept.os,q3.kept.tape,q3.kept.output,q3.kept.size,λ c hc _=> hkeep c hc⟩,λ b B x d hb hx=> ?_⟩
     . rw [hget] at hb
       split at hb
       . exact q3.rel.blk b B hb
       . obtain ⟨b',d,m,arr,el,fr,e1,e2,e3,e4⟩:=hold.blk b B hb
         exact ⟨b',d,m,arr,el,fr,q3.le _ _ e1,e2,λ i v hv=> (by obtain ⟨y,g1,g2⟩:=e3 i v hv;exact ⟨y,g1,g2.mono q3.le⟩),e4⟩
     . rw [hget] at k1 k2
       split at k1
       . rename_i hr1
         have g1:=hanc b1 B1 x1 d1 hr1.1 k1 e1
         split at k2
         . exact q3.rel.inj b1 B1 b2 B2 x1 d1 x2 d2 k1 k2 hne hro1 e1 e2
         . have:=hlt b2 B2 x2 d2 k2 (hback _ _ _ _ k2 e2)
           omega
       . have g1:=hlt b1 B1 x1 d1 k1 (hback _ _ _ _ k1 e1)
         split at k2
         . rename_i hr2
           have:=hanc b2 B2 x2 d2 hr2.1 k2 e2
           omega
         . exact hR.inj b1 B1 b2 B2 x1 d1 x2 d2 k1 k2 hne hro1 (hback _ _ _ _ k1 e1) (hback _ _ _ _ k2 e2)
     . rw [hget] at hb
       split at hb
       . rename_i hr1;exact .inl (hanc b B x d hr1.1 hb hx)
       . exact .inr (.inl ⟨B,hb,hback _ _ _ _ hb hx,id⟩)
   . rw [hl2]
     have:=q4 b hb
     rwa [AKs,hlen] at this
  rcases ARR h3 with h|h
  . exact main v h (.inl rfl)
  . exact main undef h (.inr rfl)
theorem AYi {c:Call} {g:Operand} {g':X} {xs:List X} {k:RK} (hC:CSound P C) (hc:c.callee= .value g) (hg:trX g=some g')
 (hx:trXs c.args.toList=some xs) (ho:o.op= .call c) (hr:evOp C made (.calv g' xs k) e H K=some r):SeqOK P o e H K r:=by
 simp only [evOp] at hr
 split at hr
 . rename_i f fs cs e1
   cases hk:allOk (fs.toList++gxs e xs++cs.toList) with
   |false=> rw [hk] at hr;cases hr
   |true=>
    rw [hk,cond_true] at hr
    obtain ⟨v,H',⟨⟨fn,hf,hb,hn⟩,h1,h2⟩,h3⟩:=hC _ _ _ _ _ hr
    have allOk_app:∀xs ys:List Value,allOk (xs++ys)=true->allOk xs=true/\allOk ys=true:=by
     intro xs ys
     induction xs with
     |nil=> intro h;exact ⟨rfl,h⟩
     |cons x xs ih=>
      intro h
      simp only [List.cons_append,allOk] at h ⊢
      cases hx:okv x with
      |false=> rw [hx] at h;cases h
      |true=> rw [hx,cond_true] at h;rw [cond_true];exact ih h
    have hk2:=(allOk_app _ _ (allOk_app _ _ hk).1).2
    have main:∀v2,K v2 H'=some r->(v2=v∨v2=undef)->SeqOK P o e H K r:=by
     intro v2 hk3 hv2
     refine ⟨v2,H',hk3,h1,λ ρ w a Q hR hD hE=> ?_⟩
     have hm:∀x∈c.args.toList,x∈o.op.operands:=λ x hx=> by simp [ho,Op.operands,Call.operands,hc];exact .inr (by simpa using hx)
     have q:=vx hE hg (by simp [ho,Op.operands,Call.operands,hc])
     rw [e1] at q
     obtain ⟨fs',cs',g1,g2,g3⟩:=q.func
     have h4:=h2 ρ w (fs'.toList++c.args.toList.map a.eval++cs'.toList) hR hD ((g2.append (ANC hE hx hm hk2)).append g3)
     have ea:(⟨fs'.toList++c.args.toList.map a.eval++cs'.toList⟩:Array Value)=fs'++c.args.map a.eval++cs':=Array.ext' (by simp)
     rw [ea] at h4
     have hb':fn.body≠none:=by cases h:fn.body <;> simp_all
     have hn' : ¬ fn.name = "runtime.NumGoroutine" := by simpa using hn
     refine AKu (f:=f) (args:=fs'++c.args.map a.eval++cs') (by simp [execOp,ho,resolve,hc,g1,Deferred.ofValue,invoke,callFunc,hf,hn',hb']) (h4.mono λ e' w' ⟨ρ',v',q1,q2,q3,q4⟩=> ⟨v',q1,ρ',v',rfl, ?_,q3,q4⟩)
     rcases hv2 with rfl|rfl
     . exact q2
     . exact .inl rfl
    rcases ARR h3 with h|h
    . exact main v h (.inl rfl)
    . exact main undef h (.inr rfl)
 . cases hr
theorem AYj {c:Call} {g:Operand} {g':X} {xs:List X} {k:RK} (hC:CSound P C) (hc:c.callee= .value g) (hg:trX g=some g')
 (hx:trXs c.args.toList=some xs) (ho:o.op= .call c) (hr:evOp C made (.calq g' xs k) e H K=some r):CallOK P o e H H K r false:=by
 simp only [evOp] at hr
 split at hr
 . rename_i f fs cs e1
   cases hk:allOk (fs.toList++gxs e xs++cs.toList) with
   |false=> rw [hk] at hr;cases hr
   |true=>
    rw [hk,cond_true] at hr
    obtain ⟨v,H',⟨⟨fn,hf,hb,hn⟩,h1,h2⟩,h3⟩:=hC _ _ _ _ _ hr
    have allOk_app:∀xs ys:List Value,allOk (xs++ys)=true->allOk xs=true/\allOk ys=true:=by
     intro xs ys
     induction xs with
     |nil=> intro h;exact ⟨rfl,h⟩
     |cons x xs ih=>
      intro h
      simp only [List.cons_append,allOk] at h ⊢
      cases hx:okv x with
      |false=> rw [hx] at h;cases h
      |true=> rw [hx,cond_true] at h;rw [cond_true];exact ih h
    have hk2:=(allOk_app _ _ (allOk_app _ _ hk).1).2
    cases hfree:ptrFree v with
    |false=> rw [hfree] at h3;cases h3
    |true=>
    rw [hfree,cond_true] at h3
    have main:∀v2,K v2 H=some r->(v2=v∨v2=undef)->CallOK P o e H H K r false:=by
     intro v2 hk3 hv2
     refine ⟨v2, [],by simpa using hk3,λ _=> rfl,λ ρ hp w a Q hR hs hD hE=> ?_⟩
     have hm:∀x∈c.args.toList,x∈o.op.operands:=λ x hx=> by simp [ho,Op.operands,Call.operands,hc];exact .inr (by simpa using hx)
     have q:=vx hE hg (by simp [ho,Op.operands,Call.operands,hc])
     rw [e1] at q
     obtain ⟨fs',cs',g1,g2,g3⟩:=q.func
     have h4:=h2 ρ w (fs'.toList++c.args.toList.map a.eval++cs'.toList) (hR.ro hs) (by rw [AKs];exact hD) ((g2.append (ANC hE hx hm hk2)).append g3)
     have ea:(⟨fs'.toList++c.args.toList.map a.eval++cs'.toList⟩:Array Value)=fs'++c.args.map a.eval++cs':=Array.ext' (by simp)
     rw [ea] at h4
     have hb':fn.body≠none:=by cases h:fn.body <;> simp_all
     have hn' : ¬ fn.name = "runtime.NumGoroutine" := by simpa using hn
     refine AKu (f:=f) (args:=fs'++c.args.map a.eval++cs') (by simp [execOp,ho,resolve,hc,g1,Deferred.ofValue,invoke,callFunc,hf,hn',hb']) (h4.mono λ e' w' ⟨ρ',v',q1,q2,q3,q4⟩=> ⟨v',q1,ρ,v',rfl, ?_, ?_,λ b hb=> .inl hb⟩)
     . rcases hv2 with rfl|rfl
       . rcases q2 with q|q|q
         . exact .inl q
         . exact .inr (.inl q)
         . exact .of (q.free hfree ρ)
       . exact .inl rfl
     . rw [ARd]
       have hkeep:=ARb q3.kept
       exact ⟨Le.refl _,hR.same hkeep,⟨q3.kept.os,q3.kept.tape,q3.kept.output,q3.kept.size,λ c hc _=> hkeep c hc⟩,λ b B x d hb hx=> .inr (.inl ⟨B,hb,hx,id⟩)⟩
    rcases ARR h3 with h|h
    . exact main v h (.inl rfl)
    . exact main undef h (.inr rfl)
 . cases hr
end seq
variable {P:Program} {R:Type}
def isBar:IOp->Bool
 | .st ..| .app ..| .cpy ..| .clr ..| .cvs ..| .call ..| .calv ..=> true
 |_=> false
def isCal:IOp->Bool
 | .calp ..| .calf ..| .calq ..=> true
 |_=> false
def hidOf:IOp->List Nat
 | .calf _ _ h _=> h
 |_=> []
theorem ARI (made:List (Nat×Nat×Nat)):∀(hs:List Nat) (H:Heap),(hideH H made hs).length=H.length:=by
 have h1:∀(i:Nat) (made:List (Nat×Nat×Nat)) (H:Heap),(made.foldl (λ H m=> bif Nat.beq m.1 i then H.mapIdx (λ j x=> bif Nat.ble m.2.1 j && Nat.blt j m.2.2 then none else x) else H) H).length=H.length:=by
  intro i made
  induction made with
  |nil=> intro H;rfl
  |cons m made ih=>
   intro H
   rw [List.foldl_cons,ih]
   cases Nat.beq m.1 i <;> simp
 intro hs
 induction hs with
 |nil=> intro H;rfl
 |cons i hs ih=> intro H;rw [hideH,ih,h1]
theorem ANg (made:List (Nat×Nat×Nat)):∀(hs:List Nat) (H:Heap) b B,hblk (hideH H made hs) b=some B->hblk H b=some B:=by
 have h0:∀(p:Nat->Bool) (H:Heap) b B,hblk (H.mapIdx (λ j x=> bif p j then none else x)) b=some B->hblk H b=some B:=by
  intro p H b B h
  rw [AIH] at h ⊢
  rw [List.getElem?_mapIdx] at h
  cases hb:H[b]? with
  |none=> rw [hb] at h;simp at h
  |some x=>
   rw [hb] at h
   simp only [Option.map_some] at h
   cases hp:p b with
   |true=> rw [hp] at h;simp at h
   |false=> rw [hp] at h;exact h
 have h1:∀(i:Nat) (made:List (Nat×Nat×Nat)) (H:Heap) b B,hblk (made.foldl (λ H m=> bif Nat.beq m.1 i then H.mapIdx (λ j x=> bif Nat.ble m.2.1 j && Nat.blt j m.2.2 then none else x) else H) H) b=some B->hblk H b=some B:=by
  intro i made
  induction made with
  |nil=> intro H b B h;exact h
  |cons m made ih=>
   intro H b B h
   rw [List.foldl_cons] at h
   have:=ih _ b B h
   cases hm:Nat.beq m.1 i with
   |false=> rw [hm] at this;exact this
   |true=> rw [hm,cond_true] at this;exact h0 (λ j=> Nat.ble m.2.1 j && Nat.blt j m.2.2) _ b B this
 intro hs
 induction hs with
 |nil=> intro H b B h;exact h
 |cons i hs ih=> intro H b B h;exact h1 i made H b B (ih _ b B h)
section
variable {o:Oper} {e:Env} {H:Heap} {K:Value->Heap->Option R} {r:R} {C:Tab R} {made:List (Nat×Nat×Nat)} {an:Ann} {bar:Bool} {hide:List Nat} {io:IOp}
def OpOK (P:Program) (o:Oper) (io:IOp) (e:Env) (H:Heap) (made:List (Nat×Nat×Nat)) (K:Value->Heap->Option R) (r:R):Prop:=
 if isBar io then SeqOK P o e H K r else if isCal io then CallOK P o e H (hideH H made (hidOf io)) K r (isCreator io) else LocalOK P o e H K r (isCreator io)
theorem loc (hb:isBar io=false) (hc:isCal io=false) (h:LocalOK P o e H K r (isCreator io)):OpOK P o io e H made K r:=by
 unfold OpOK;rw [hb,hc];exact h
theorem AU1 {op:BinOp} {t t':TypeId} {x y:Operand} (ho:o.op= .binOp op t x y t') (h:trBin P op t x y=some io) (hr:evOp C made io e H K=some r):OpOK P o io e H made K r:=by
 unfold trBin at h
 split at h
 . rename_i a b ha hb
   split at h
   . rename_i k hu
     cases h1:isArith op||isShift op with
     |true=> rw [h1] at h;cases h;exact loc rfl rfl (Abb ho ha hb hr)
     |false=>
      rw [h1,cond_false] at h
      cases h2:isCmp op with
      |true=> rw [h2] at h;cases h;exact loc rfl rfl (AbW hu ho ha hb hr)
      |false=> rw [h2] at h;cases h
   . rename_i hu
     split at h
     . cases h;exact loc rfl rfl (AVs (neg:=false) rfl hu ho ha hb hr)
     . cases h;exact loc rfl rfl (AVs (neg:=true) rfl hu ho ha hb hr)
     . cases h
   . rename_i hu
     split at h
     . cases h;exact loc rfl rfl (AVt (neg:=false) rfl ho ha hb hr)
     . cases h;exact loc rfl rfl (AVt (neg:=true) rfl ho ha hb hr)
     . cases h
   . rename_i d hu
     split at h
     . cases h;exact loc rfl rfl (ANG (neg:=false) rfl (.inl ⟨⟨d,hu⟩,rfl⟩) ho ha hr)
     . cases h;exact loc rfl rfl (ANG (neg:=true) rfl (.inl ⟨⟨d,hu⟩,rfl⟩) ho ha hr)
     . cases h
   . rename_i d hu
     split at h
     . cases h;exact loc rfl rfl (ANG (neg:=false) rfl (.inr (.inl ⟨⟨d,hu⟩,_,_,rfl⟩)) ho ha hr)
     . cases h;exact loc rfl rfl (ANG (neg:=true) rfl (.inr (.inl ⟨⟨d,hu⟩,_,_,rfl⟩)) ho ha hr)
     . cases h
   . rename_i d1 d2 d3 hu
     split at h
     . cases h;exact loc rfl rfl (ANG (neg:=false) rfl (.inr (.inr ⟨⟨_,_,_,hu⟩,rfl⟩)) ho ha hr)
     . cases h;exact loc rfl rfl (ANG (neg:=true) rfl (.inr (.inr ⟨⟨_,_,_,hu⟩,rfl⟩)) ho ha hr)
     . cases h
   . rename_i fs hu
     cases hg:P.stoodInHeld t||P.eqGuardType P.depth t with
     |true=> rw [hg] at h;cases h
     |false=>
      rw [hg,cond_false] at h
      rw [Bool.or_eq_false_iff] at hg
      split at h
      . rename_i os hos
        split at h
        . cases h;exact loc rfl rfl (AVr (neg:=false) rfl hu hg.1 hg.2 hos ho ha hb hr)
        . cases h;exact loc rfl rfl (AVr (neg:=true) rfl hu hg.1 hg.2 hos ho ha hb hr)
        . cases h
      . cases h
   . cases h
 . cases h
theorem AS6 {c:Call} (hC:CSound P C) (ho:o.op= .call c) (h:trCall P an bar hide c o.type=some io) (hr:evOp C made io e H K=some r):OpOK P o io e H made K r:=by
 unfold trCall at h
 split at h
 . rename_i b hcal
   split at h
   . rename_i u x h1 h2
     split at h
     . rename_i x' d hx hu;cases h;exact loc rfl rfl (AbI hcal h1 h2 hu ho hx hr)
     . rename_i x' hx hu;cases h;exact loc rfl rfl (AYh hcal h1 h2 hu ho hx hr)
     . rename_i x' n d hx hu;cases h;exact loc rfl rfl (AbT hcal h1 h2 hu ho hr)
     . cases h
   . rename_i x y h2
     split at h
     . rename_i x' y' hx hy;cases h;exact loc rfl rfl (Agm hcal h2 ho hx hy hr)
     . cases h
   . rename_i x y h2
     split at h
     . rename_i x' y' hx hy;cases h;exact loc rfl rfl (Agn hcal h2 ho hx hy hr)
     . cases h
   . rename_i u u' x y h1 h2
     split at h
     . rename_i s' y' el el' hx hy hu hu'
       split at h
       . rename_i z n m hz hn hm
         cases hc:Nat.beq m z.length && !(Nat.beq m 0) && !(Nat.beq n 0) && z.all ptrFreeC with
         |false=> rw [hc] at h;cases h
         |true=>
          rw [hc,cond_true] at h
          simp only [Bool.and_eq_true,Bool.not_eq_true'] at hc
          obtain ⟨⟨⟨g1,g2⟩,g3⟩,g4⟩:=hc
          have e1:m=z.length:=Nat.eq_of_beq_eq_true g1
          subst e1
          have e3:n≠0:=Nat.ne_of_beq_eq_false g3
          split at h
          . cases h;exact loc rfl rfl (AVu hcal h1 h2 hu hu' hz hm hn e3 ho hx hy hr)
          . cases hbar:bar with
            |true=> rw [hbar] at h;cases h;exact Abd hcal h1 h2 hu hu' hz hm hn e3 ho hx hy hr
            |false=> rw [hbar] at h;cases h;exact loc rfl rfl (AVu hcal h1 h2 hu hu' hz hm hn e3 ho hx hy hr)
       . cases h
     . cases h
   . rename_i u u' x y h1 h2
     split at h
     . rename_i d' s' el hx hy hu
       split at h
       . rename_i m hm
         cases hc:Nat.beq m 0 with
         |true=> rw [hc] at h;cases h
         |false=> rw [hc] at h;cases h;exact AbU hcal h1 h2 hu hm ho hx hy hr
       . cases h
     . cases h
   . rename_i u x h1 h2
     split at h
     . rename_i s' el hx hu
       split at h
       . rename_i z m hz hm
         cases hc:Nat.beq m z.length && !(Nat.beq m 0) && z.all ptrFreeC with
         |false=> rw [hc] at h;cases h
         |true=>
          rw [hc,cond_true] at h
          simp only [Bool.and_eq_true,Bool.not_eq_true'] at hc
          cases h
          exact AbX hcal h1 h2 hu hz hm (Nat.eq_of_beq_eq_true hc.1.1) (Nat.ne_of_beq_eq_false hc.1.2) hc.2 ho hx hr
       . cases h
     . cases h
   . cases h
 . rename_i f hcal
   split at h
   . rename_i xs hxs
     split at h
     . rename_i fn hf
       cases hc : fn.body.isSome && !(fn.name == "runtime.NumGoroutine") with
       |false=> rw [hc] at h;cases h
       |true=>
        rw [hc,cond_true] at h
        simp only [Bool.and_eq_true,Bool.not_eq_true'] at hc
        cases h1:an.drop.elem f||(!bar && an.pure.elem f) with
        |true=> rw [h1] at h;cases h;exact AYk hC hcal hf hc.1 hc.2 hxs ho hr
        |false=>
         rw [h1,cond_false] at h
         cases h2: !bar && an.fresh.elem f with
         |true=> rw [h2] at h;cases h;exact AYm hC hcal hf hc.1 hc.2 (ARI _ _ _) hxs ho hr
         |false=> rw [h2] at h;cases h;exact AYl hC hcal hf hc.1 hc.2 hxs ho hr
     . cases h
   . cases h
 . rename_i g hcal
   split at h
   . rename_i xs hxs
     cases hb:bar with
     |true=> rw [hb] at h;cases h;exact AYi hC hcal rfl hxs ho hr
     |false=> rw [hb] at h;cases h;exact AYj hC hcal rfl hxs ho hr
   . cases h
 . cases h
theorem AQo (hC:CSound P C) (h:trOp P an bar hide o.op o.type=some io) (hr:evOp C made io e H K=some r):OpOK P o io e H made K r:=by
 unfold trOp at h
 split at h
 . rename_i x ho;split at h
   . cases h;exact loc rfl rfl (AVq (.inl ho) ‹_› hr)
   . cases h
 . rename_i x ho;split at h
   . cases h;exact loc rfl rfl (AVq (.inr ho) ‹_› hr)
   . cases h
 . rename_i c a b ho;split at h
   . cases h;exact loc rfl rfl (AYe ho ‹_› ‹_› ‹_› hr)
   . cases h
 . rename_i op u x y t' ho;exact AU1 ho h hr
 . rename_i u x ho;split at h
   . cases h;exact loc rfl rfl (AYg ho ‹_› hr)
   . cases h
 . rename_i u x ho;split at h
   . cases h;exact loc rfl rfl (AbF ho ‹_› hr)
   . cases h
 . rename_i u x ho;split at h
   . rename_i a n hx hs
     cases hA:isAg P u with
     |true=>
      rw [hA,cond_true] at h
      cases hk:Nat.beq (kinds P 6 u).length n && !(Nat.beq n 0) with
      |false=> rw [hk] at h;cases h
      |true=>
       rw [hk] at h;cases h
       simp only [Bool.and_eq_true,Bool.not_eq_true'] at hk
       have hd:∃d,P.underlying u=some d:=by
        unfold isAg at hA
        cases hq:P.underlying u with
        |none=> rw [hq] at hA;cases hA
        |some d=> exact ⟨d,rfl⟩
       obtain ⟨d,hd⟩:=hd
       exact loc rfl rfl (AbJ hd hs (λ _=> ⟨Nat.eq_of_beq_eq_true hk.1,Nat.ne_of_beq_eq_false hk.2⟩) ho hx hr)
     |false=>
      rw [hA,cond_false] at h
      split at h
      . rename_i d hd;cases h;exact loc rfl rfl (AbJ hd hs (λ hh=> by rw [hA] at hh;cases hh) ho hx hr)
      . cases h
   . cases h
 . rename_i u x v ho;split at h
   . cases h;exact Agl ‹_› ho ‹_› ‹_› hr
   . cases h
 . rename_i x ho;split at h
   . cases h;exact loc rfl rfl (AYf ho ‹_› hr)
   . cases h
 . rename_i u x f ho;split at h
   . rename_i x' fs hx hu
     split at h
     . rename_i fd hf
       split at h
       . rename_i n hn
         cases hz:Nat.beq n 0 with
         |true=> rw [hz] at h;cases h
         |false=> rw [hz] at h;cases h;exact loc rfl rfl (AbP hu hf hn (Nat.ne_of_beq_eq_false hz) ho hx hr)
       . cases h
     . cases h
   . cases h
 . rename_i u x f ho;split at h
   . rename_i x' fs hx hu
     split at h
     . rename_i fd hf
       split at h
       . rename_i n d hn hd;cases h;exact loc rfl rfl (AbO hu hf hn hd ho hx hr)
       . cases h
     . cases h
   . cases h
 . rename_i u x i ho;split at h
   . rename_i x' i' el hx hi hu
     split at h
     . rename_i n hn
       cases hz:Nat.beq n 0 with
       |true=> rw [hz] at h;cases h
       |false=> rw [hz] at h;cases h;exact loc rfl rfl (AbM hu hn ho hx hi hr)
     . cases h
   . rename_i x' i' m el hx hi hu
     split at h
     . rename_i n hn
       cases hz:Nat.beq n 0 with
       |true=> rw [hz] at h;cases h
       |false=> rw [hz] at h;cases h;exact loc rfl rfl (AbN hu hn ho hx hi hr)
     . cases h
   . cases h
 . rename_i u x i ho;split at h
   . rename_i x' i' m el hx hi hu
     split at h
     . rename_i n d hn hd;cases h;exact loc rfl rfl (AbK hu hd hn ho hx hi hr)
     . cases h
   . rename_i x' i' hx hi hu
     cases h;exact loc rfl rfl (AbL hu ho hx hi hr)
   . cases h
 . rename_i x i ho;split at h
   . cases h;exact loc rfl rfl (AbQ ho ‹_› hr)
   . cases h
 . rename_i el ho;split at h
   . rename_i z hz
     cases hf:z.all ptrFreeC with
     |false=> rw [hf] at h;cases h
     |true=> rw [hf] at h;cases h;exact loc rfl rfl (Abe hz hf ho hr)
   . cases h
 . rename_i el x ho;split at h
   . cases h;exact loc rfl rfl (AbY ho ‹_› hr)
   . cases h
 . rename_i u parts ho;split at h
   . rename_i fs z hu hz
     cases hf:z.all ptrFreeC with
     |false=> rw [hf] at h;cases h
     |true=>
      rw [hf,cond_true] at h
      split at h
      . rename_i pl hpl
        split at h
        . rename_i ps hps;cases h;exact loc rfl rfl (Aba hu hz hf hpl hps ho hr)
        . cases h
      . cases h
   . rename_i m el z hu hz
     cases hf:z.all ptrFreeC with
     |false=> rw [hf] at h;cases h
     |true=>
      rw [hf,cond_true] at h
      split at h
      . rename_i n hn
        split at h
        . rename_i ps hps;cases h;exact loc rfl rfl (AYn hu hz hf hn hps ho hr)
        . cases h
      . cases h
   . cases h
 . rename_i u len parts ho;split at h
   . rename_i el hu
     split at h
     . rename_i z n hz hn
       cases hc:Nat.beq n z.length && !(Nat.beq n 0) && z.all ptrFreeC && Nat.ble (len * n) 16777216 with
       |false=> rw [hc] at h;cases h
       |true=>
        rw [hc,cond_true] at h
        simp only [Bool.and_eq_true,Bool.not_eq_true'] at hc
        obtain ⟨⟨⟨g1,g2⟩,g3⟩,g4⟩:=hc
        split at h
        . rename_i ps hps;cases h
          exact loc rfl rfl (AbZ hu hz g3 hn (Nat.eq_of_beq_eq_true g1) (Nat.ne_of_beq_eq_false g2) (Nat.le_of_ble_eq_true g4) hps ho hr)
        . cases h
     . cases h
   . cases h
 . rename_i u l c ho;split at h
   . rename_i l' c' el hl hc hu
     split at h
     . rename_i z n b hz hn hb
       cases hcc:Nat.beq n z.length && !(Nat.beq n 0) && !(Nat.beq b 0) && z.all ptrFreeC with
       |false=> rw [hcc] at h;cases h
       |true=>
        rw [hcc] at h;cases h
        simp only [Bool.and_eq_true,Bool.not_eq_true'] at hcc
        obtain ⟨⟨⟨g1,g2⟩,g3⟩,g4⟩:=hcc
        exact loc rfl rfl (AbG hu hz hn hb (Nat.eq_of_beq_eq_true g1) (Nat.ne_of_beq_eq_false g2) g4 ho hl hc hr)
     . cases h
   . cases h
 . rename_i u x lo hi mx ho;split at h
   . rename_i x' lo' hi' mx' el hx h1 h2 h3 hu
     split at h
     . rename_i n hn
       cases hz:Nat.beq n 0||(mx'.isSome && hi'.isNone) with
       |true=> rw [hz] at h;cases h
       |false=>
        rw [hz] at h;cases h
        refine loc rfl rfl (AbD hu hn (λ hm=> ?_) ho hx h1 h2 h3 hr)
        cases hi' <;> simp_all
     . cases h
   . rename_i x' lo' hi' mx' m el hx h1 h2 h3 hu
     split at h
     . rename_i n hn
       cases hz:Nat.beq n 0||(mx'.isSome && hi'.isNone) with
       |true=> rw [hz] at h;cases h
       |false=>
        rw [hz] at h;cases h
        refine loc rfl rfl (AbE hu hn (λ hm=> ?_) ho hx h1 h2 h3 hr)
        cases hi' <;> simp_all
     . cases h
   . cases h
 . rename_i u v x ho;split at h
   . cases h;exact loc rfl rfl (AbV ‹_› ‹_› ho ‹_› hr)
   . rename_i x' el hx hu hv
     split at h
     . rename_i he;cases h;exact loc rfl rfl (Abc hu he hv ho hx hr)
     . cases h
   . rename_i x' el el' hx hu hv
     split at h
     . rename_i he
       cases huv:u==v with
       |false=> rw [huv] at h;cases h
       |true=>
        rw [huv] at h;cases h
        exact AbR hu hv he huv ho hx hr
     . cases h
   . cases h
 . rename_i f first caps ho;split at h
   . rename_i xs h1 h2
     cases h
     have:first= #[]:=Array.ext' h1
     subst this
     exact loc rfl rfl (AbH ho h2 hr)
   . cases h
 . rename_i c ho;exact AS6 hC ho h hr
 . cases h
theorem OpOK.seq (h:OpOK P o io e H made K r):SeqOK P o e H K r:=by
 unfold OpOK at h
 split at h
 . exact h
 . split at h
   . exact CallOK.seq h (ANg _ _ _)
   . exact LocalOK.seq h
end
end Go.Proofs.Ytmanlfonppfhaaa.FW
